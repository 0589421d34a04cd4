import Derived.Test.YtgdiadednlajgaaGreatDoorP24
import Derived.Test.YtgdiadednlajgaaGreatDoorP11
namespace Go.Proofs.YtgdiadednlajgaaGreatDoor
set_option linter.unusedVariables false
def firstN (n : Nat) (p : Nat → Bool) : Option Nat := (List.range n).find? p
theorem firstN_some {n k : Nat} {p : Nat → Bool} (hk : k < n) (hp : p k = true) (hl : ∀ j, j < k → p j = false) : firstN n p = some k := by
  unfold firstN
  rw [List.find?_range_eq_some]
  exact ⟨hp, List.mem_range.2 hk, fun j hj => by rw [hl j hj]; rfl⟩
theorem firstN_none {n : Nat} {p : Nat → Bool} (hl : ∀ j, j < n → p j = false) : firstN n p = none := by
  unfold firstN
  rw [List.find?_eq_none]
  intro j hj
  rw [hl j (List.mem_range.1 hj)]
  exact Bool.false_ne_true
theorem firstN_of {n : Nat} {p : Nat → Bool} (h : firstN n p = none) : ∀ j, j < n → p j = false := fun j hj => by
  unfold firstN at h
  rw [List.find?_eq_none] at h
  have := h j (List.mem_range.2 hj)
  cases hp : p j with
  | false => rfl
  | true => exact absurd hp this
theorem firstN_at {n k : Nat} {p : Nat → Bool} (h : firstN n p = some k) : k < n ∧ p k = true ∧ ∀ j, j < k → p j = false := by
  unfold firstN at h
  rw [List.find?_range_eq_some] at h
  exact ⟨List.mem_range.1 h.2.1, h.1, fun j hj => by simpa using h.2.2 j hj⟩
def ruleAt (F : List Rl) (k : Nat) : Int := match F[k]? with | some r => ruleC r (F.take k) F.length | none => 0
def useAt (F : List Rl) (k : Nat) : Int := match F[k]? with | some r => useC F r | none => 0
def conflAt (F : List Rl) (k : Nat) : Bool := match F[k]? with | some r => conflR (firL F) r | none => false
theorem ruleAt_eq {F : List Rl} {k : Nat} {r : Rl} (h : F[k]? = some r) : ruleAt F k = ruleC r (F.take k) F.length := by unfold ruleAt; rw [h]
theorem useAt_eq {F : List Rl} {k : Nat} {r : Rl} (h : F[k]? = some r) : useAt F k = useC F r := by unfold useAt; rw [h]
theorem conflAt_eq {F : List Rl} {k : Nat} {r : Rl} (h : F[k]? = some r) : conflAt F k = conflR (firL F) r := by unfold conflAt; rw [h]
def checkF (F : List Rl) : Int × Int :=
  if F.length = 0 then (10, -1) else if 40 < F.length then (2, -1) else
  match firstN F.length (fun k => ruleAt F k != 0) with
  | some k => (ruleAt F k, k)
  | none => match firstN F.length (fun k => useAt F k != 0) with
    | some k => (useAt F k, k)
    | none => match firstN F.length (cycB F) with
      | some k => (22, k)
      | none => match firstN F.length (fun k => !((finL F).getD k false)) with
        | some k => (24, k)
        | none => match firstN F.length (conflAt F) with
          | some k => (23, k)
          | none => (0, 0)
section
variable {F : List Rl}
theorem checkF_empty (h : F.length = 0) : checkF F = (10, -1) := by unfold checkF; rw [if_pos h]
theorem checkF_many (h : 40 < F.length) : checkF F = (2, -1) := by unfold checkF; rw [if_neg (by omega), if_pos h]
theorem checkF_rule {k : Nat} (h0 : 0 < F.length) (h1 : F.length ≤ 40) (hk : k < F.length) (hp : ruleAt F k ≠ 0) (hl : ∀ j, j < k → ruleAt F j = 0) : checkF F = (ruleAt F k, (k : Int)) := by
  unfold checkF
  rw [if_neg (by omega), if_neg (by omega), firstN_some hk (by simpa using hp) (fun j hj => by simpa using hl j hj)]
theorem checkF_use {k : Nat} (h0 : 0 < F.length) (h1 : F.length ≤ 40) (ha : ∀ j, j < F.length → ruleAt F j = 0) (hk : k < F.length) (hp : useAt F k ≠ 0) (hl : ∀ j, j < k → useAt F j = 0) : checkF F = (useAt F k, (k : Int)) := by
  unfold checkF
  rw [if_neg (by omega), if_neg (by omega), firstN_none (fun j hj => by simpa using ha j hj), firstN_some hk (by simpa using hp) (fun j hj => by simpa using hl j hj)]
theorem checkF_cyc {k : Nat} (h0 : 0 < F.length) (h1 : F.length ≤ 40) (ha : ∀ j, j < F.length → ruleAt F j = 0) (hb : ∀ j, j < F.length → useAt F j = 0) (hk : k < F.length) (hp : cycB F k = true) (hl : ∀ j, j < k → cycB F j = false) : checkF F = (22, (k : Int)) := by
  unfold checkF
  rw [if_neg (by omega), if_neg (by omega), firstN_none (fun j hj => by simpa using ha j hj), firstN_none (fun j hj => by simpa using hb j hj), firstN_some hk hp hl]
def checkT (F : List Rl) : Int × Int :=
  match firstN F.length (fun k => !((finL F).getD k false)) with
  | some k => (24, k)
  | none => match firstN F.length (conflAt F) with
    | some k => (23, k)
    | none => (0, 0)
theorem checkF_tail (h0 : 0 < F.length) (h1 : F.length ≤ 40) (ha : ∀ j, j < F.length → ruleAt F j = 0) (hb : ∀ j, j < F.length → useAt F j = 0) (hc : ∀ j, j < F.length → cycB F j = false) : checkF F = checkT F := by
  unfold checkF
  rw [if_neg (by omega), if_neg (by omega), firstN_none (fun j hj => by simpa using ha j hj), firstN_none (fun j hj => by simpa using hb j hj), firstN_none hc]
  rfl
def idxF (l : List Bool) : Int := match firstN l.length (fun k => !(l.getD k false)) with | some k => (k : Int) | none => -1
theorem checkT_fin (hl : (finL F).length = F.length) (h : 0 ≤ idxF (finL F)) : checkT F = (24, idxF (finL F)) := by
  unfold idxF at h ⊢
  rw [hl] at h ⊢
  unfold checkT
  cases hf : firstN F.length (fun k => !((finL F).getD k false)) with
  | none => rw [hf] at h; exact absurd h (by decide)
  | some k => rfl
theorem checkT_confl {k : Nat} (hl : (finL F).length = F.length) (h : ¬ 0 ≤ idxF (finL F)) (hk : k < F.length) (hp : conflAt F k = true) (hj : ∀ j, j < k → conflAt F j = false) : checkT F = (23, (k : Int)) := by
  unfold idxF at h
  rw [hl] at h
  unfold checkT
  cases hf : firstN F.length (fun k => !((finL F).getD k false)) with
  | some k => rw [hf] at h; exact absurd (Int.natCast_nonneg k) h
  | none => rw [firstN_some hk hp hj]
theorem checkT_ok (hl : (finL F).length = F.length) (h : ¬ 0 ≤ idxF (finL F)) (hj : ∀ j, j < F.length → conflAt F j = false) : checkT F = (0, 0) := by
  unfold idxF at h
  rw [hl] at h
  unfold checkT
  cases hf : firstN F.length (fun k => !((finL F).getD k false)) with
  | some k => rw [hf] at h; exact absurd (Int.natCast_nonneg k) h
  | none => rw [firstN_none hj]
theorem fok_of (h : ∀ j, j < F.length → ruleAt F j = 0) : FOk F := fun i r hr => by
  have hi : i < F.length := (List.getElem?_eq_some_iff.1 hr).1
  have := h i hi
  rw [ruleAt_eq hr] at this
  exact rok_of this
theorem use_ok {n : Nat} {r : Rl} (h : ROk n r) : UseOk n r := ⟨fun hc => h.count (by
    unfold useCount hasB at hc
    simp at hc
    omega), fun h7 => ⟨(h.seven h7).1.symm, h.parts (.inl h7)⟩⟩
end
end Go.Proofs.YtgdiadednlajgaaGreatDoor
namespace Go.Proofs.YtgdiadednlajgaaGreatDoor
set_option linter.unusedVariables false
def numB (x : List UInt8) : Option Int := if numOk x = true then some (atoiV x) else none
def kwK (w : List UInt8) : Int := match kindWs.findIdx? (· == w) with | some i => (i : Int) + 1 | none => 0
def partRd (w : List UInt8) : Option (List UInt8 × List UInt8) := if ((cutL 58 w).2.2 && ((cutL 58 w).1 == [45] || isName (cutL 58 w).1)) && isName (cutL 58 w).2.1 then some (if (cutL 58 w).1 == [45] then [] else (cutL 58 w).1, (cutL 58 w).2.1) else none
def partsRd : List (List UInt8) → Option (List (List UInt8) × List (List UInt8))
  | [] => some ([], [])
  | w :: l => match partRd w, partsRd l with | some (n, r), some (ns, rs) => some (n :: ns, r :: rs) | _, _ => none
def bare (name : List UInt8) (k : Int) : Rl := ⟨name, k, [], 0, false, 0, 0, 0, 0, 0, [], []⟩
def readK (name : List UInt8) (k : Int) (ws : List (List UInt8)) : Option (Rl × List (List UInt8)) :=
  if k = 1 then (match ws with | [x] => if x = [] then none else (unhex x).map fun b => ({ bare name k with bs := b }, []) | _ => none)
  else if k = 2 then (match ws with | [a, o, m, x] => (match numB a, numB m, numB x with | some a, some m, some x => if o = bigW ∨ o = littleW then some ({ bare name k with size := a, big := o == bigW, mn := m, mx := x }, []) else none | _, _, _ => none) | _ => none)
  else if k = 3 then (match ws with | [a, b] => (match numB a, numB b with | some a, some b => some ({ bare name k with stop := a, mx := b }, []) | _, _ => none) | _ => none)
  else if k = 4 then (match ws with | [a] => (numB a).map fun a => ({ bare name k with size := a }, []) | _ => none)
  else if k = 5 then (match ws with | [a, b] => (match numB a, numB b with | some a, some b => some ({ bare name k with stop := a, size := b }, []) | _, _ => none) | _ => none)
  else if k = 6 then (match ws with | [a, b] => if isName a && isName b then some (bare name k, [a, b]) else none | _ => none)
  else if k = 9 then (match ws with | [a, b] => (match numB a with | some a => if isName b then some ({ bare name k with stop := a }, [b]) else none | none => none) | _ => none)
  else if k = 10 then (match ws with | [a] => if isName a then some (bare name k, [a]) else none | _ => none)
  else if k = 7 then (partsRd ws).map fun p => ({ bare name k with names := p.1 }, p.2)
  else if k = 8 then (if ws.all isName then some (bare name k, ws) else none)
  else none
def readW : List (List UInt8) → Option (Rl × List (List UInt8))
  | name :: kw :: ws => if isName name then readK name (kwK kw) ws else none
  | _ => none
def readL (l : List UInt8) : Option (Rl × List (List UInt8)) := readW (spl 32 l)
def linesRd : Int → List (List UInt8) → Except Int (List (Rl × List (List UInt8)))
  | _, [] => .ok []
  | k, [l] => if l = [] then .ok [] else .error k
  | k, l :: m :: t => match readL l with
    | none => .error k
    | some x => (match linesRd (k + 1) (m :: t) with | .ok xs => .ok (x :: xs) | .error e => .error e)
def places (F : List Rl) : List (List UInt8) → Option (List Int)
  | [] => some []
  | s :: l => if findR F s < 0 then none else (places F l).map (findR F s :: ·)
def putRefs (x : Rl) (ns : List Int) : Rl :=
  { x with count := if useCount x.kind then ns.headD 0 else x.count, elem := if useOf x.kind then (if useCount x.kind then ns.tail else ns).headD 0 else x.elem, parts := if useOf x.kind then (if useCount x.kind then ns.tail else ns).tail else (if useCount x.kind then ns.tail else ns) }
def resolve1 (F : List Rl) (x : Rl × List (List UInt8)) : Option Rl := (places F x.2).map (putRefs x.1)
def resolveAll (F : List Rl) : Int → List (Rl × List (List UInt8)) → Except Int (List Rl)
  | _, [] => .ok []
  | k, x :: l => match resolve1 F x with
    | none => .error k
    | some r => (match resolveAll F (k + 1) l with | .ok rs => .ok (r :: rs) | .error e => .error e)
def faultF (F : List Rl) : Int × Int := if checkF F ≠ (0, 0) then checkF F else if 2000 < (textF F).length then (14, -1) else (0, 0)
def parseF (s : List UInt8) : List Rl × Int × Int :=
  if 2000 < s.length then ([], 3, -1) else
  match linesRd 0 (spl 10 s) with
  | .error k => ([], 1, k)
  | .ok xs => match resolveAll (xs.map (·.1)) 0 xs with
    | .error k => ([], 12, k)
    | .ok F => if faultF F ≠ (0, 0) then ([], faultF F) else (F, 0, 0)
end Go.Proofs.YtgdiadednlajgaaGreatDoor
namespace Go.Proofs.YtgdiadednlajgaaGreatDoor
set_option linter.unusedVariables false
/-! numbers -/
theorem nDigits_le : ∀ (k u : Nat), u < 10 ^ (k + 1) → Lib.nDigits u ≤ k + 1
  | 0, u, h => by rw [Lib.nDigits_small (by simpa using h)]; omega
  | k + 1, u, h => by
    by_cases h1 : u < 10
    · rw [Lib.nDigits_small h1]; omega
    · rw [Lib.nDigits_big h1]
      have := nDigits_le k (u / 10) (by rw [Nat.pow_succ] at h; omega)
      omega
theorem decDigits_dig (u : Nat) : ∀ c ∈ Lib.decDigits u, 48 ≤ c.toNat ∧ c.toNat ≤ 57 := by
  induction u using Nat.strongRecOn with
  | _ u ih =>
    intro c hc
    rw [Lib.decDigits] at hc
    split at hc
    · next h =>
      rw [List.mem_singleton.1 hc]
      simp only [UInt8.toNat_ofNat']
      omega
    · next h =>
      rcases List.mem_append.1 hc with hc | hc
      · exact ih (u / 10) (by omega) c hc
      · rw [List.mem_singleton.1 hc]
        simp only [UInt8.toNat_ofNat']
        omega
theorem decDigits_ne (u : Nat) : Lib.decDigits u ≠ [] := by
  intro h
  have h1 := Lib.decDigits_length u
  have h2 := Lib.nDigits_pos u
  rw [h] at h1
  simp at h1
  omega
theorem parse_app (d : UInt8) : ∀ (l : List UInt8) (acc v : Nat), Lib.parseUint10 acc l = .ok v → Lib.parseUint10 acc (l ++ [d]) = Lib.parseUint10 v [d]
  | [], acc, v, h => by
    simp only [Lib.parseUint10] at h
    injection h with h
    rw [← h]
    rfl
  | c :: l, acc, v, h => by
    rw [List.cons_append]
    rw [Lib.parseUint10] at h ⊢
    split at h
    · next h1 =>
      rw [if_pos h1]
      split at h
      · cases h
      · next h2 =>
        rw [if_neg h2]
        split at h
        · cases h
        · next h3 =>
          rw [if_neg h3]
          exact parse_app d l _ v h
    · cases h
theorem parse_dec (u : Nat) : u < 9223372036854775808 → Lib.parseUint10 0 (Lib.decDigits u) = .ok u := by
  induction u using Nat.strongRecOn with
  | _ u ih =>
    intro hu
    rw [Lib.decDigits]
    have hd : (UInt8.ofNat (48 + u % 10)).toNat = 48 + u % 10 := by simp only [UInt8.toNat_ofNat']; omega
    split
    · next h =>
      have hd' : (UInt8.ofNat (48 + u)).toNat = 48 + u := by simp only [UInt8.toNat_ofNat']; omega
      rw [Lib.parseUint10, hd', if_pos (by omega), if_neg (by omega), if_neg (by omega), Lib.parseUint10]
      congr 1
      omega
    · next h =>
      rw [parse_app _ _ _ _ (ih (u / 10) (by omega) (by omega)), Lib.parseUint10, hd, if_pos (by omega), if_neg (by omega), if_neg (by omega), Lib.parseUint10]
      congr 1
      omega
theorem atoi_dec {u : Nat} (hu : u < 9223372036854775808) : Lib.atoiAll (Lib.decDigits u) = .ok (u : Int) := by
  cases hl : Lib.decDigits u with
  | nil => exact absurd hl (decDigits_ne u)
  | cons c r =>
    have hc := decDigits_dig u c (by rw [hl]; exact List.mem_cons_self)
    have hp := parse_dec u hu
    rw [hl] at hp
    have hm : Lib.parseMag (c :: r) = .ok u := by
      unfold Lib.parseMag
      rw [if_neg (by simp)]
      exact hp
    show Lib.atoiAll (c :: r) = _
    unfold Lib.atoiAll
    simp only
    rw [if_neg (by omega), hm]
    simp only
    rw [if_neg (by omega), if_neg (by omega), if_neg (by omega)]
theorem itoa_nn {v : Int} (h : 0 ≤ v) : Lib.itoa v = Lib.decDigits v.toNat := by unfold Lib.itoa; rw [if_neg (by omega)]
theorem numB_itoa {v : Int} (h0 : 0 ≤ v) (h1 : v ≤ 9999999999) : numB (Lib.itoa v) = some v := by
  have ha : Lib.atoiAll (Lib.itoa v) = .ok v := by
    rw [itoa_nn h0, atoi_dec (by omega)]
    congr 1
    omega
  have hl : (Lib.itoa v).length ≤ 10 := by
    rw [itoa_nn h0, Lib.decDigits_length]
    exact nDigits_le 9 _ (by omega)
  have hok : numOk (Lib.itoa v) = true := by
    unfold numOk
    rw [ha]
    simp
    omega
  unfold numB
  rw [if_pos hok]
  unfold atoiV
  rw [ha]
theorem numB_some {x : List UInt8} {v : Int} (h : numB x = some v) : x = Lib.itoa v ∧ 0 ≤ v := by
  unfold numB at h
  split at h
  · next hok =>
    unfold numOk at hok
    unfold atoiV at h
    cases ha : Lib.atoiAll x with
    | ok u =>
      rw [ha] at hok h
      simp only [Option.some.injEq] at h
      subst h
      simp only [Bool.and_eq_true, Bool.not_eq_true', decide_eq_false_iff_not, beq_iff_eq] at hok
      exact ⟨hok.2.2.symm, by omega⟩
    | _ => rw [ha] at hok; cases hok
  · cases h
/-! what a word may hold -/
def Wok (w : List UInt8) : Prop := (32 : UInt8) ∉ w ∧ (10 : UInt8) ∉ w
theorem itoa_wok {v : Int} (h : 0 ≤ v) : Wok (Lib.itoa v) := by
  rw [itoa_nn h]
  exact ⟨fun hm => absurd (decDigits_dig _ _ hm) (by decide), fun hm => absurd (decDigits_dig _ _ hm) (by decide)⟩
theorem name_ok {l : List UInt8} (h : isName l = true) : Wok l ∧ (58 : UInt8) ∉ l ∧ l ≠ [] ∧ l ≠ [45] := by
  unfold isName at h
  rw [Bool.and_eq_true, Bool.and_eq_true, List.all_eq_true] at h
  have ho := h.2
  refine ⟨⟨fun hm => absurd (ho _ hm) (by decide), fun hm => absurd (ho _ hm) (by decide)⟩, fun hm => absurd (ho _ hm) (by decide), ?_, ?_⟩
  · rintro rfl
    have := h.1.2
    cases this
  · rintro rfl
    have := h.1.2
    exact absurd this (by decide)
/-! kinds -/
theorem kwK_kindW {k : Int} (h : 1 ≤ k ∧ k ≤ 10) : kwK (kindW k) = k := by
  rcases (show k = 1 ∨ k = 2 ∨ k = 3 ∨ k = 4 ∨ k = 5 ∨ k = 6 ∨ k = 7 ∨ k = 8 ∨ k = 9 ∨ k = 10 by omega) with rfl | rfl | rfl | rfl | rfl | rfl | rfl | rfl | rfl | rfl <;> decide
theorem kwK_some {w : List UInt8} (h : kwK w ≠ 0) : (1 ≤ kwK w ∧ kwK w ≤ 10) ∧ w = kindW (kwK w) := by
  unfold kwK at h ⊢
  cases hf : kindWs.findIdx? (· == w) with
  | none => rw [hf] at h; exact absurd rfl h
  | some i =>
    rw [List.findIdx?_eq_some_iff_getElem] at hf
    obtain ⟨h1, h2, _⟩ := hf
    have h10 : i < 10 := h1
    have h3 : kindWs[i]'h1 = w := eq_of_beq h2
    refine ⟨by simp only; omega, ?_⟩
    simp only
    unfold kindW
    rw [show ((i : Int) + 1 - 1).toNat = i by omega, List.getD_eq_getElem?_getD, List.getElem?_eq_getElem h1, h3]
    rfl
theorem kindW_wok {k : Int} (h : 1 ≤ k ∧ k ≤ 10) : Wok (kindW k) := by
  rcases (show k = 1 ∨ k = 2 ∨ k = 3 ∨ k = 4 ∨ k = 5 ∨ k = 6 ∨ k = 7 ∨ k = 8 ∨ k = 9 ∨ k = 10 by omega) with rfl | rfl | rfl | rfl | rfl | rfl | rfl | rfl | rfl | rfl <;> exact ⟨by decide, by decide⟩
/-! hexadecimal digits -/
theorem hx_nat {n : Nat} (h : n < 16) : (hx n).toNat = if n < 10 then 48 + n else 87 + n := by
  unfold hx
  simp only [UInt8.toNat_ofNat']
  split <;> omega
theorem hxAt_hx {n : Nat} (h : n < 16) : hxAt (hx n) = n := by
  have := hx_nat h
  unfold hxAt
  split at this
  · rw [if_pos (by omega)]; omega
  · rw [if_neg (by omega), if_pos (by omega)]; omega
theorem hx_hxAt {c : UInt8} (h : ¬ hxAt c < 0) : hxAt c < 16 ∧ hx (hxAt c).toNat = c := by
  unfold hxAt at h ⊢
  have hlt : c.toNat < 256 := c.toNat_lt
  split
  · refine ⟨by omega, UInt8.toNat.inj ?_⟩
    rw [hx_nat (by omega), if_pos (by omega)]
    omega
  · split
    · refine ⟨by omega, UInt8.toNat.inj ?_⟩
      rw [hx_nat (by omega), if_neg (by omega)]
      omega
    · next h1 h2 =>
      rw [if_neg h1, if_neg h2] at h
      exact absurd (by decide) h
theorem hxByte_nat {a b : UInt8} (ha : ¬ hxAt a < 0) (hb : ¬ hxAt b < 0) : ((hxByte a b).toNat : Int) = hxAt a * 16 + hxAt b := by
  have h1 := (hx_hxAt ha).1
  have h2 := (hx_hxAt hb).1
  unfold hxByte
  simp only [UInt8.toNat_ofNat']
  omega
theorem hexB_byte {a b : UInt8} (ha : ¬ hxAt a < 0) (hb : ¬ hxAt b < 0) : hexB (hxByte a b) = [a, b] := by
  have h1 := hx_hxAt ha
  have h2 := hx_hxAt hb
  have h3 := hxByte_nat ha hb
  unfold hexB
  rw [show (hxByte a b).toNat / 16 = (hxAt a).toNat by omega, show (hxByte a b).toNat % 16 = (hxAt b).toNat by omega, h1.2, h2.2]
theorem hxByte_hex (c : UInt8) : hxByte (hx (c.toNat / 16)) (hx (c.toNat % 16)) = c := by
  have hlt : c.toNat < 256 := c.toNat_lt
  refine UInt8.toNat.inj ?_
  unfold hxByte
  rw [hxAt_hx (by omega), hxAt_hx (by omega)]
  simp only [UInt8.toNat_ofNat']
  omega
theorem unhex_hexL : ∀ bs : List UInt8, unhex (hexL bs) = some bs
  | [] => rfl
  | c :: l => by
    have hlt : c.toNat < 256 := c.toNat_lt
    show unhex (hx (c.toNat / 16) :: hx (c.toNat % 16) :: hexL l) = _
    rw [unhex, hxAt_hx (by omega), hxAt_hx (by omega), if_neg (by omega), unhex_hexL l, hxByte_hex]
    rfl
theorem hexL_unhex : ∀ {x bs : List UInt8}, unhex x = some bs → hexL bs = x
  | [], bs, h => by cases h; rfl
  | [_], bs, h => by cases h
  | a :: b :: l, bs, h => by
    rw [unhex] at h
    split at h
    · cases h
    · next hn =>
      have ha : ¬ hxAt a < 0 := fun h' => hn (.inl h')
      have hb : ¬ hxAt b < 0 := fun h' => hn (.inr h')
      cases hu : unhex l with
      | none => rw [hu] at h; cases h
      | some t =>
        rw [hu] at h
        cases h
        show hexB (hxByte a b) ++ hexL t = _
        rw [hexB_byte ha hb, hexL_unhex hu]
        rfl
theorem hexL_ne {bs : List UInt8} (h : bs ≠ []) : hexL bs ≠ [] := by
  cases bs with
  | nil => exact absurd rfl h
  | cons c l => intro he; cases he
theorem hexL_wok (bs : List UInt8) : Wok (hexL bs) := by
  have key : ∀ c ∈ hexL bs, (48 ≤ c.toNat ∧ c.toNat ≤ 57) ∨ (97 ≤ c.toNat ∧ c.toNat ≤ 102) := by
    intro c hc
    unfold hexL at hc
    rw [List.mem_flatten] at hc
    obtain ⟨l, hl, hc⟩ := hc
    rw [List.mem_map] at hl
    obtain ⟨b, _, rfl⟩ := hl
    have hlt : b.toNat < 256 := b.toNat_lt
    unfold hexB at hc
    rcases List.mem_cons.1 hc with rfl | hc
    · have := hx_nat (n := b.toNat / 16) (by omega)
      split at this <;> omega
    · rw [List.mem_singleton.1 hc]
      have := hx_nat (n := b.toNat % 16) (by omega)
      split at this <;> omega
  exact ⟨fun hm => absurd (key _ hm) (by decide), fun hm => absurd (key _ hm) (by decide)⟩
/-! parts -/
theorem cutL_app {c : UInt8} : ∀ {x : List UInt8} (s : List UInt8), c ∉ x → cutL c (x ++ c :: s) = (x, s, true)
  | [], s, _ => by
    show cutL c (c :: s) = _
    rw [cutL, if_pos rfl]
  | b :: l, s, h => by
    show cutL c (b :: (l ++ c :: s)) = _
    rw [cutL, if_neg (fun e => h (by rw [e]; exact List.mem_cons_self)), cutL_app s fun hm => h (List.mem_cons_of_mem _ hm)]
def wordP (n r : List UInt8) : List UInt8 := (if n == [] then [45] else n) ++ [58] ++ r
theorem partRd_word {n r : List UInt8} (hn : n = [] ∨ isName n = true) (hr : isName r = true) : partRd (wordP n r) = some (n, r) := by
  unfold partRd wordP
  rw [List.append_assoc, List.singleton_append]
  rcases hn with rfl | hn
  · rw [show cutL 58 ((if (([] : List UInt8) == []) = true then [45] else []) ++ 58 :: r) = ([45], r, true) from cutL_app (x := [45]) r (by decide)]
    simp only
    rw [if_pos (by rw [hr]; rfl)]
    rfl
  · have h := name_ok hn
    have h1 : (n == ([] : List UInt8)) = false := beq_eq_false_iff_ne.2 h.2.2.1
    have h2 : (n == ([45] : List UInt8)) = false := beq_eq_false_iff_ne.2 h.2.2.2
    have e : cutL 58 ((if (n == ([] : List UInt8)) = true then [45] else n) ++ 58 :: r) = (n, r, true) := by
      rw [h1, if_neg Bool.false_ne_true]
      exact cutL_app r h.2.1
    rw [e]
    simp only
    rw [h2, if_pos (by rw [hn, hr]; rfl), if_neg Bool.false_ne_true]
theorem word_partRd {w n r : List UInt8} (h : partRd w = some (n, r)) : w = wordP n r ∧ (n = [] ∨ isName n = true) ∧ isName r = true := by
  unfold partRd at h
  obtain ⟨t, r', b, hc⟩ : ∃ t r' b, cutL 58 w = (t, r', b) := ⟨_, _, _, rfl⟩
  rw [hc] at h
  simp only at h
  split at h
  · next hb =>
    rw [Bool.and_eq_true, Bool.and_eq_true, Bool.or_eq_true] at hb
    obtain ⟨⟨rfl, ht⟩, hr⟩ := hb
    have hw := (cutL_yes hc).2.1
    rw [Option.some.injEq, Prod.mk.injEq] at h
    obtain ⟨h1, rfl⟩ := h
    by_cases ht45 : t = [45]
    · rw [ht45] at h1 hw
      have : n = [] := by rw [← h1]; rfl
      subst this
      exact ⟨hw, .inl rfl, hr⟩
    · have h2 : (t == ([45] : List UInt8)) = false := beq_eq_false_iff_ne.2 ht45
      rw [h2] at h1 ht
      have : n = t := by rw [← h1]; rfl
      subst this
      have hn : isName n = true := ht.resolve_left (by decide)
      refine ⟨?_, .inr hn, hr⟩
      unfold wordP
      have h3 : (n == ([] : List UInt8)) = false := beq_eq_false_iff_ne.2 (name_ok hn).2.2.1
      rw [h3, hw]
      simp
  · cases h
theorem partsRd_words {g : Int → List UInt8} : ∀ (ns : List (List UInt8)) (ps : List Int), ns.length = ps.length → (∀ n ∈ ns, n = [] ∨ isName n = true) → (∀ p ∈ ps, isName (g p) = true) → partsRd (List.zipWith (fun n p => wordP n (g p)) ns ps) = some (ns, ps.map g)
  | [], [], _, _, _ => rfl
  | [], _ :: _, h, _, _ => by cases h
  | _ :: _, [], h, _, _ => by cases h
  | n :: ns, p :: ps, h, hn, hp => by
    rw [List.zipWith_cons_cons, partsRd, partRd_word (hn n List.mem_cons_self) (hp p List.mem_cons_self), partsRd_words ns ps (by simpa using h) (fun x hx => hn x (List.mem_cons_of_mem _ hx)) (fun x hx => hp x (List.mem_cons_of_mem _ hx))]
    rfl
theorem words_partsRd : ∀ {ws ns rs : List (List UInt8)}, partsRd ws = some (ns, rs) → ws = List.zipWith wordP ns rs ∧ ns.length = rs.length ∧ (∀ r ∈ rs, isName r = true)
  | [], ns, rs, h => by cases h; exact ⟨rfl, rfl, by simp⟩
  | w :: l, ns, rs, h => by
    rw [partsRd] at h
    cases h1 : partRd w with
    | none => rw [h1] at h; cases h
    | some nr =>
      obtain ⟨n, r⟩ := nr
      cases h2 : partsRd l with
      | none => rw [h1, h2] at h; cases h
      | some nrs =>
        obtain ⟨ns', rs'⟩ := nrs
        rw [h1, h2] at h
        cases h
        have a := word_partRd h1
        have b := words_partsRd h2
        refine ⟨?_, ?_, ?_⟩
        · rw [List.zipWith_cons_cons, ← a.1, ← b.1]
        · rw [List.length_cons, List.length_cons, b.2.1]
        · intro x hx
          rcases List.mem_cons.1 hx with rfl | hx
          · exact a.2.2
          · exact b.2.2 x hx
/-! all parts of a rule -/
theorem range_map {α β : Type} (f : α → β) (d : α) (l : List α) : (List.range l.length).map (fun i => f (l.getD i d)) = l.map f := by
  refine List.ext_getElem (by simp) fun i h1 h2 => ?_
  have hi : i < l.length := by simpa using h1
  simp [List.getD_eq_getElem?_getD, List.getElem?_eq_getElem hi]
theorem range_zip {α β γ : Type} (f : α → β → γ) (d : α) (e : β) (l : List α) (m : List β) (h : l.length = m.length) : (List.range m.length).map (fun i => f (l.getD i d) (m.getD i e)) = List.zipWith f l m := by
  refine List.ext_getElem (by simp [h]) fun i h1 h2 => ?_
  have hi : i < m.length := by simpa using h1
  have hi' : i < l.length := by omega
  simp [List.getD_eq_getElem?_getD, List.getElem?_eq_getElem hi, List.getElem?_eq_getElem hi']
theorem parts_7 (F : List Rl) {r : Rl} (hk : r.kind = 7) (hl : r.names.length = r.parts.length) : (List.range r.parts.length).map (partW F r) = List.zipWith (fun n p => wordP n (nmAt F p)) r.names r.parts := by
  rw [← range_zip (fun n p => wordP n (nmAt F p)) [] 0 r.names r.parts hl]
  refine List.map_congr_left fun i _ => ?_
  unfold partW wordP
  rw [hk]
  simp
theorem parts_8 (F : List Rl) {r : Rl} (hk : r.kind ≠ 7) : (List.range r.parts.length).map (partW F r) = r.parts.map (nmAt F) := by
  rw [← range_map (nmAt F) 0 r.parts]
  refine List.map_congr_left fun i _ => ?_
  unfold partW
  rw [beq_eq_false_iff_ne.2 hk]
  simp
end Go.Proofs.YtgdiadednlajgaaGreatDoor
