import Derived.Test.YtgdiadednlajgaaGreatDoorP41
import Derived.Test.YtgdiadednlajgaaGreatDoorP34
import Derived.Test.YtgdiadednlajgaaGreatDoorP31
namespace Go.Proofs.YtgdiadednlajgaaGreatDoor
set_option linter.unusedVariables false
theorem unhex_len : ∀ {x o : List UInt8}, unhex x = some o → o.length ≤ x.length
  | [], o, h => by
    rw [unhex] at h
    cases h
    exact Nat.le_refl _
  | [_], o, h => by
    rw [unhex] at h
    cases h
  | a :: b :: l, o, h => by
    rw [unhex] at h
    split at h
    · cases h
    · cases hu : unhex l with
      | none => rw [hu] at h; cases h
      | some o' =>
        rw [hu] at h
        cases h
        have := unhex_len hu
        simp only [List.length_cons]
        omega
structure KSz (B : Nat) (name : List UInt8) (n : Nat) (x : Rl) (refs : List (List UInt8)) : Prop where
  name : x.name = name
  bs : x.bs.length ≤ B
  nn : x.names.length ≤ n
  each : ∀ s ∈ x.names, s.length ≤ B
  parts : x.parts = []
  rf : refs.length ≤ n
  use : (useCount x.kind = true ∨ useOf x.kind = true) → refs.length = (if useCount x.kind then 1 else 0) + (if useOf x.kind then 1 else 0)
theorem pName_len (w : List UInt8) : (pName w).length ≤ w.length := by
  unfold pName
  split
  · exact Nat.zero_le _
  · exact (cutL_len 58 w).1
theorem readK_size {name : List UInt8} {k : Int} {ws : List (List UInt8)} {x : Rl} {refs : List (List UInt8)} {B : Nat} (hB : ∀ w ∈ ws, w.length ≤ B) (h : readK name k ws = some (x, refs)) : KSz B name ws.length x refs := by
  have mk : ∀ (y : Rl) (rs : List (List UInt8)), some (y, rs) = some (x, refs) → KSz B name ws.length y rs → KSz B name ws.length x refs := by
    intro y rs e hk
    cases e
    exact hk
  have dull : ∀ (y : Rl), y.name = name → y.bs = [] → y.names = [] → y.parts = [] → ∀ (rs : List (List UInt8)), rs.length ≤ ws.length → ((useCount y.kind = true ∨ useOf y.kind = true) → rs.length = (if useCount y.kind then 1 else 0) + (if useOf y.kind then 1 else 0)) → KSz B name ws.length y rs := by
    intro y h1 h2 h3 h4 rs h5 h6
    exact ⟨h1, by rw [h2]; exact Nat.zero_le _, by rw [h3]; exact Nat.zero_le _, (by rw [h3]; intro s hs; cases hs), h4, h5, h6⟩
  unfold readK at h
  by_cases k1 : k = 1
  · subst k1
    rw [if_pos rfl] at h
    match ws, hB, h, mk with
    | [], _, h, _ => cases h
    | [a], hB, h, mk =>
      simp only at h
      split at h
      · cases h
      · cases hu : unhex a with
        | none => rw [hu] at h; cases h
        | some o =>
          rw [hu] at h
          refine mk _ _ h ⟨rfl, ?_, Nat.zero_le _, fun s hs => (by cases hs), rfl, Nat.zero_le _, fun hh => ?_⟩
          · have := unhex_len hu
            have h2 := hB a (by simp)
            show o.length ≤ B
            omega
          · rcases hh with hh | hh <;> cases (show false = true from hh)
    | _ :: _ :: _, _, h, _ => cases h
  rw [if_neg k1] at h
  by_cases k2 : k = 2
  · subst k2
    rw [if_pos rfl] at h
    match ws, h, mk, dull with
    | [], h, _, _ => cases h
    | [_], h, _, _ => cases h
    | [_, _], h, _, _ => cases h
    | [_, _, _], h, _, _ => cases h
    | [a, o, m, x'], h, mk, dull =>
      simp only at h
      split at h
      · split at h
        · exact mk _ _ h (dull _ rfl rfl rfl rfl _ (Nat.zero_le _) fun hh => by rcases hh with hh | hh <;> cases (show false = true from hh))
        · cases h
      · cases h
    | _ :: _ :: _ :: _ :: _ :: _, h, _, _ => cases h
  rw [if_neg k2] at h
  by_cases k3 : k = 3
  · subst k3
    rw [if_pos rfl] at h
    match ws, h, mk, dull with
    | [], h, _, _ => cases h
    | [_], h, _, _ => cases h
    | [a, b], h, mk, dull =>
      simp only at h
      split at h
      · exact mk _ _ h (dull _ rfl rfl rfl rfl _ (Nat.zero_le _) fun hh => by rcases hh with hh | hh <;> cases (show false = true from hh))
      · cases h
    | _ :: _ :: _ :: _, h, _, _ => cases h
  rw [if_neg k3] at h
  by_cases k4 : k = 4
  · subst k4
    rw [if_pos rfl] at h
    match ws, h, mk, dull with
    | [], h, _, _ => cases h
    | [a], h, mk, dull =>
      simp only at h
      cases hn : numB a with
      | none => rw [hn] at h; cases h
      | some v =>
        rw [hn] at h
        exact mk _ _ h (dull _ rfl rfl rfl rfl _ (Nat.zero_le _) fun hh => by rcases hh with hh | hh <;> cases (show false = true from hh))
    | _ :: _ :: _, h, _, _ => cases h
  rw [if_neg k4] at h
  by_cases k5 : k = 5
  · subst k5
    rw [if_pos rfl] at h
    match ws, h, mk, dull with
    | [], h, _, _ => cases h
    | [_], h, _, _ => cases h
    | [a, b], h, mk, dull =>
      simp only at h
      split at h
      · exact mk _ _ h (dull _ rfl rfl rfl rfl _ (Nat.zero_le _) fun hh => by rcases hh with hh | hh <;> cases (show false = true from hh))
      · cases h
    | _ :: _ :: _ :: _, h, _, _ => cases h
  rw [if_neg k5] at h
  by_cases k6 : k = 6
  · subst k6
    rw [if_pos rfl] at h
    match ws, h, mk, dull with
    | [], h, _, _ => cases h
    | [_], h, _, _ => cases h
    | [a, b], h, mk, dull =>
      simp only at h
      split at h
      · exact mk _ _ h (dull _ rfl rfl rfl rfl _ (Nat.le_refl _) fun _ => rfl)
      · cases h
    | _ :: _ :: _ :: _, h, _, _ => cases h
  rw [if_neg k6] at h
  by_cases k9 : k = 9
  · subst k9
    rw [if_pos rfl] at h
    match ws, h, mk, dull with
    | [], h, _, _ => cases h
    | [_], h, _, _ => cases h
    | [a, b], h, mk, dull =>
      simp only at h
      split at h
      · split at h
        · exact mk _ _ h (dull _ rfl rfl rfl rfl _ (by simp) fun _ => rfl)
        · cases h
      · cases h
    | _ :: _ :: _ :: _, h, _, _ => cases h
  rw [if_neg k9] at h
  by_cases k10 : k = 10
  · subst k10
    rw [if_pos rfl] at h
    match ws, h, mk, dull with
    | [], h, _, _ => cases h
    | [a], h, mk, dull =>
      simp only at h
      split at h
      · exact mk _ _ h (dull _ rfl rfl rfl rfl _ (Nat.le_refl _) fun _ => rfl)
      · cases h
    | _ :: _ :: _, h, _, _ => cases h
  rw [if_neg k10] at h
  by_cases k7 : k = 7
  · subst k7
    rw [if_pos rfl, partsRd_if] at h
    split at h
    · cases h
    · refine mk _ _ h ⟨rfl, Nat.zero_le _, ?_, ?_, rfl, ?_, fun hh => ?_⟩
      · show (ws.map pName).length ≤ ws.length
        rw [List.length_map]
        exact Nat.le_refl _
      · intro s hs
        obtain ⟨w, hw, rfl⟩ := List.mem_map.1 (show s ∈ ws.map pName from hs)
        exact Nat.le_trans (pName_len w) (hB w hw)
      · show (ws.map (pRef true)).length ≤ ws.length
        rw [List.length_map]
        exact Nat.le_refl _
      · rcases hh with hh | hh <;> cases (show false = true from hh)
  rw [if_neg k7] at h
  by_cases k8 : k = 8
  · subst k8
    rw [if_pos rfl] at h
    split at h
    · exact mk _ _ h (dull _ rfl rfl rfl rfl _ (Nat.le_refl _) fun hh => by rcases hh with hh | hh <;> cases (show false = true from hh))
    · cases h
  rw [if_neg k8] at h
  cases h
theorem readL_size {l : List UInt8} {x : Rl} {refs : List (List UInt8)} (hl : l.length ≤ 2000) (h : readL l = some (x, refs)) : x.name.length ≤ 2000 ∧ KSz 2000 x.name 2001 x refs := by
  obtain ⟨h1, h2⟩ := spl_size 32 l
  unfold readL at h
  match hs : spl 32 l, h, h1, h2 with
  | [], h, _, _ => cases (show (none : Option (Rl × List (List UInt8))) = some (x, refs) from h)
  | [_], h, _, _ => cases (show (none : Option (Rl × List (List UInt8))) = some (x, refs) from h)
  | name :: kw :: ws, h, h1, h2 =>
    rw [readW] at h
    split at h
    · have hk := readK_size (B := 2000) (fun w hw => by have := h2 w (by simp [hw]); omega) h
      have hn := h2 name (by simp)
      simp only [List.length_cons] at h1
      have e := hk.name
      refine ⟨by rw [e]; omega, rfl, hk.bs, ?_, hk.each, hk.parts, ?_, hk.use⟩
      · have := hk.nn; omega
      · have := hk.rf; omega
    · cases h
theorem line_no {s t r : List UInt8} {k : Int} (hs : s ≠ []) (h : cutL 10 s = (t, r, false)) : linesRd k (spl 10 s) = .error k := by
  rw [(cutL_no h).1, linesRd, if_neg hs]
theorem line_bad {s t r : List UInt8} {k : Int} {e : Bool} (hs : s ≠ []) (h : cutL 10 s = (t, r, e)) (hb : readL t = none) : linesRd k (spl 10 s) = .error k := by
  cases e with
  | false => exact line_no hs h
  | true =>
    rw [(cutL_yes h).1]
    cases hr : spl 10 r with
    | nil => exact absurd hr (spl_ne 10 r)
    | cons m t' => rw [linesRd, hb]
theorem line_ok {s t r : List UInt8} {k : Int} {x : Rl × List (List UInt8)} (h : cutL 10 s = (t, r, true)) (hb : readL t = some x) : linesRd k (spl 10 s) = (match linesRd (k + 1) (spl 10 r) with | .ok xs => .ok (x :: xs) | .error e => .error e) := by
  rw [(cutL_yes h).1]
  cases hr : spl 10 r with
  | nil => exact absurd hr (spl_ne 10 r)
  | cons m t' =>
    rw [linesRd, hb]
    rfl
theorem findR_nm2 {F G : List Rl} (h : F.map Rl.name = G.map Rl.name) (s : List UInt8) : findR F s = findR G s := by
  have e : ∀ L : List Rl, L.findIdx? (fun r => r.name == s) = (L.map Rl.name).findIdx? (fun n => n == s) := by
    intro L
    induction L with
    | nil => rfl
    | cons x l ih => rw [List.map_cons, List.findIdx?_cons, List.findIdx?_cons, ih]
  unfold findR
  rw [e F, e G, h]
theorem places_nm2 {F G : List Rl} (h : F.map Rl.name = G.map Rl.name) : ∀ refs : List (List UInt8), places F refs = places G refs
  | [] => rfl
  | s :: l => by rw [places, places, findR_nm2 h s, places_nm2 h l]
theorem resolve1_nm2 {F G : List Rl} (h : F.map Rl.name = G.map Rl.name) (p : Rl × List (List UInt8)) : resolve1 F p = resolve1 G p := by
  unfold resolve1
  rw [places_nm2 h]
theorem resolve1_size {F : List Rl} {x r : Rl} {refs : List (List UInt8)} (h : resolve1 F (x, refs) = some r) : r.name = x.name ∧ r.bs = x.bs ∧ r.names = x.names ∧ r.parts.length ≤ refs.length ∧ r.kind = x.kind := by
  unfold resolve1 at h
  have hp : ∀ {refs : List (List UInt8)} {ns : List Int}, places F refs = some ns → ns.length = refs.length := by
    intro refs
    induction refs with
    | nil => intro ns e; rw [places] at e; cases e; rfl
    | cons s l ih =>
      intro ns e
      rw [places] at e
      split at e
      · cases e
      · cases hl : places F l with
        | none => rw [hl] at e; cases e
        | some ms =>
          rw [hl] at e
          cases e
          rw [List.length_cons, List.length_cons, ih hl]
  cases hns : places F refs with
  | none => simp only [hns] at h; cases h
  | some ns =>
    simp only [hns] at h
    cases h
    have hl := hp hns
    refine ⟨rfl, rfl, rfl, ?_, rfl⟩
    show (if useOf x.kind then (if useCount x.kind then ns.tail else ns).tail else (if useCount x.kind then ns.tail else ns)).length ≤ refs.length
    have h1 : (if useCount x.kind then ns.tail else ns).length ≤ ns.length := by
      split
      · rw [List.length_tail]; omega
      · exact Nat.le_refl _
    split
    · rw [List.length_tail]
      omega
    · omega
theorem fm_rd {w : World} {A : Option Addr} {n : Nat} {cur : List RlY} (hr : Rd w w.heap.size 12 A n (flatC cur)) (hn : cur.length = n) (hf : ∀ y ∈ cur, RlF y w) : FmIn w w.heap.size A n (cur.map RlY.x) := by
  refine ⟨by rw [List.length_map]; exact hn, fun h0 => ?_⟩
  obtain ⟨b, o, e, hb, hc⟩ := hr.2 h0
  refine ⟨b, o, e, hb, fun i r hi => ?_⟩
  rw [List.getElem?_map] at hi
  cases hy : cur[i]? with
  | none => rw [hy] at hi; cases hi
  | some y =>
    rw [hy] at hi
    cases hi
    have hcell : ∀ j v, j < 12 → y.cells[j]? = some v → w.cell? ⟨b, o + i * 12 + j, none⟩ = some v := fun j v hj hv => by
      rw [Nat.add_assoc]
      exact hc (i * 12 + j) v (by rw [flatC_get cur i y j hy hj]; exact hv)
    have hfy := hf y (List.mem_of_getElem? hy)
    refine ⟨.slice y.Ab y.x.bs.length y.cb, .slice y.An y.x.names.length y.cn, .slice y.Ap y.x.parts.length y.cp, ⟨hcell 0 _ (by decide) rfl, hcell 1 _ (by decide) rfl, hcell 2 _ (by decide) rfl, hcell 3 _ (by decide) rfl, hcell 4 _ (by decide) rfl, hcell 5 _ (by decide) rfl, hcell 6 _ (by decide) rfl, hcell 7 _ (by decide) rfl, hcell 8 _ (by decide) rfl, hcell 9 _ (by decide) rfl, hcell 10 _ (by decide) rfl, hcell 11 _ (by decide) rfl⟩, ?_⟩
    exact ⟨_, _, _, _, _, _, _, _, _, rfl, rfl, rfl, hfy.r.cb, hfy.r.cn, hfy.r.cp, hfy.r.b, hfy.r.n, hfy.r.p⟩
theorem fm_of {w : World} {A : Option Addr} {n c : Nat} {e : TypeId} {cur : List RlY} (h : (Atom.row A n c e 12 (flatC cur)).on w) (hn : cur.length = n) (hf : ∀ y ∈ cur, RlF y w) : FmIn w w.heap.size A n (cur.map RlY.x) := fm_rd (row_rd h (by decide)).1 hn hf
end Go.Proofs.YtgdiadednlajgaaGreatDoor
namespace Go.Proofs.YtgdiadednlajgaaGreatDoor
open Go.RowKit
set_option linter.unusedVariables false
set_option linter.unusedSimpArgs false
theorem Wd.swapL {M : List Nat} {W w : World} {L P O : List Atom} (h : Wd M W (L ++ (P ++ O)) w) : Wd M W (P ++ (L ++ O)) w := by
  refine h.ofMap (fun i => if i < P.length then L.length + i else if i < P.length + L.length then i - P.length else i) (fun i j h => by (repeat' split at h) <;> omega) (fun i x hx => ?_)
  by_cases h1 : i < P.length
  · rw [if_pos h1]
    rw [List.getElem?_append_left h1] at hx
    rw [List.getElem?_append_right (by omega), Nat.add_sub_cancel_left, List.getElem?_append_left h1]
    exact hx
  · rw [if_neg h1]
    rw [List.getElem?_append_right (by omega)] at hx
    by_cases h2 : i < P.length + L.length
    · rw [if_pos h2]
      rw [List.getElem?_append_left (by omega)] at hx
      rw [List.getElem?_append_left (by omega)]
      exact hx
    · rw [if_neg h2]
      rw [List.getElem?_append_right (by omega)] at hx
      rw [List.getElem?_append_right (by omega), List.getElem?_append_right (by omega)]
      rw [show i - L.length - P.length = i - P.length - L.length by omega]
      exact hx
theorem Wd.swap5 {M : List Nat} {W w : World} {L O : List Atom} {a b c d e : Atom} (h : Wd M W (L ++ (a :: b :: c :: d :: e :: O)) w) : Wd M W (a :: b :: c :: d :: e :: (L ++ O)) w := Wd.swapL (P := [a, b, c, d, e]) h
theorem Wd.swap41 {M : List Nat} {W w : World} {L O : List Atom} {a b c d e : Atom} (h : Wd M W (a :: (L ++ (b :: c :: d :: e :: O))) w) : Wd M W (a :: b :: c :: d :: e :: (L ++ O)) w :=
  Wd.swapL (L := [b, c, d, e]) (P := [a]) (Wd.swapL (L := a :: L) (P := [b, c, d, e]) h)
theorem row_some {w : World} {A : Option Addr} {n c s : Nat} {e : TypeId} {xs : List Value} (h : (Atom.row A n c e s xs).on w) (h0 : 0 < n) : ∃ b, A = some ⟨b, 0, none⟩ := by
  have h' : w.ownsRow 0 e s (.slice A n c) n xs := h
  rcases h'.2 with ⟨hv, _⟩ | ⟨g, cap, cur, hv, _⟩
  · simp only [Value.slice.injEq] at hv
    omega
  · simp only [Value.slice.injEq] at hv
    exact ⟨g, hv.1⟩
def preE {α : Type} (l : List α) : Except Int (List α) → Except Int (List α)
  | .ok xs => .ok (l ++ xs)
  | .error e => .error e
theorem preE_app {α : Type} (a b : List α) (x : Except Int (List α)) : preE a (preE b x) = preE (a ++ b) x := by
  cases x with
  | error e => rfl
  | ok xs => simp [preE]
theorem preE_nil {α : Type} (x : Except Int (List α)) : preE [] x = x := by cases x <;> rfl
theorem line_pre {s t r : List UInt8} {k : Int} {x : Rl × List (List UInt8)} (h : cutL 10 s = (t, r, true)) (hb : readL t = some x) : linesRd k (spl 10 s) = preE [x] (linesRd (k + 1) (spl 10 r)) := by
  rw [line_ok h hb]
  cases linesRd (k + 1) (spl 10 r) <;> rfl
abbrev prL (y : RlY) : Rl × List (List UInt8) := (y.x, y.refs)
def refV (L : List RlY) : List Value := L.map fun y => .slice y.Ar y.refs.length y.cr
theorem refV_app (L : List RlY) (y : RlY) : refV (L ++ [y]) = refV L ++ [.slice y.Ar y.refs.length y.cr] := by simp [refV]
structure PrY where
  F : List Rl
  A : Option Addr
  c : Nat
  e : Int × Int
  ats : List Atom
abbrev PrY.v (y : PrY) : Value := .tuple #[.agg #[.slice y.A y.F.length y.c], .agg #[.int .i64 y.e.1, .int .i64 y.e.2]]
structure PrI (s : List UInt8) (y : PrY) : Prop where
  e : parseF s = (y.F, y.e)
  c : y.F.length ≤ y.c
  sm : FSm y.F
  w : ∀ a ∈ y.ats, a.w = false
  f : ∀ w, (∀ a ∈ y.ats, a.on w) → FmIn w w.heap.size y.A y.F.length y.F
theorem pr_bad {W w : World} {O : List Atom} {s : List UInt8} {a b : Int} (h : parseF s = ([], a, b)) (hw : Wd [] W O w) : CallEnd PrY.v (PrI s) [] W (fun y => y.ats ++ O) (.returned (.tuple #[.agg #[.slice none 0 0], .agg #[.int .i64 a, .int .i64 b]])) w :=
  ⟨⟨[], none, 0, (a, b), []⟩, rfl, ⟨h, Nat.le_refl _, ⟨Nat.zero_le _, fun r hr => (by cases hr)⟩, fun a ha => (by cases ha), fun w _ => ⟨rfl, fun h0 => absurd h0 (Nat.lt_irrefl 0)⟩⟩, hw⟩
theorem parse_long {s : List UInt8} (h : 2000 < s.length) : parseF s = ([], 3, -1) := by unfold parseF; rw [if_pos h]
theorem parse_line {s : List UInt8} {k : Int} (h : ¬ 2000 < s.length) (h1 : linesRd 0 (spl 10 s) = .error k) : parseF s = ([], 1, k) := by unfold parseF; rw [if_neg h, h1]
theorem parse_res {s : List UInt8} {k : Int} {xs : List (Rl × List (List UInt8))} (h : ¬ 2000 < s.length) (h1 : linesRd 0 (spl 10 s) = .ok xs) (h2 : resolveAll (xs.map (·.1)) 0 xs = .error k) : parseF s = ([], 12, k) := by
  unfold parseF
  rw [if_neg h, h1]
  simp only [h2]
theorem parse_flt {s : List UInt8} {xs : List (Rl × List (List UInt8))} {F : List Rl} (h : ¬ 2000 < s.length) (h1 : linesRd 0 (spl 10 s) = .ok xs) (h2 : resolveAll (xs.map (·.1)) 0 xs = .ok F) (h3 : faultF F ≠ (0, 0)) : parseF s = ([], faultF F) := by
  unfold parseF
  rw [if_neg h, h1]
  simp only [h2]
  rw [if_pos h3]
theorem parse_fin {s : List UInt8} {xs : List (Rl × List (List UInt8))} {F : List Rl} (h : ¬ 2000 < s.length) (h1 : linesRd 0 (spl 10 s) = .ok xs) (h2 : resolveAll (xs.map (·.1)) 0 xs = .ok F) (h3 : faultF F = (0, 0)) : parseF s = (F, 0, 0) := by
  unfold parseF
  rw [if_neg h, h1]
  simp only [h2]
  rw [if_neg (fun hh => hh h3)]
structure PsY where
  ls : List RlY
  s : List UInt8
  A : Option Addr
  c : Nat
  B : Option Addr
  d : Nat
  at_ : List Atom
structure PsI (s0 : List UInt8) (y : PsY) : Prop where
  res : linesRd 0 (spl 10 s0) = preE (y.ls.map prL) (linesRd (y.ls.length : Int) (spl 10 y.s))
  sz : y.ls.length + y.s.length ≤ 2000
  k : ∀ z ∈ y.ls, z.x.name.length ≤ 2000 ∧ KSz 2000 z.x.name 2001 z.x z.refs
  w : ∀ a ∈ y.at_, a.w = false
  f : ∀ w, (∀ a ∈ y.at_, a.on w) → ∀ z ∈ y.ls, RlF z w
theorem PsI.next {s0 t r : List UInt8} {ls : List RlY} {s : List UInt8} {A B A' B' : Option Addr} {c d c' d' : Nat} {at_ : List Atom} {y : RlY} (h : PsI s0 ⟨ls, s, A, c, B, d, at_⟩) (hc : cutL 10 s = (t, r, true)) (hy : RlI t y) (hok : y.ok = true) (hrl : readL t = some (y.x, y.refs)) : PsI s0 ⟨ls ++ [y], r, A', c', B', d', y.ats ++ at_⟩ := by
  have e := (cutL_yes hc).2.1
  have hsz : ls.length + s.length ≤ 2000 := h.sz
  have hl : s.length = t.length + 1 + r.length := by rw [e]; simp only [List.length_append, List.length_cons]; omega
  refine ⟨?_, ?_, ?_, ?_, ?_⟩
  · have h1 := h.res
    rw [h1]
    show preE (ls.map prL) (linesRd (ls.length : Int) (spl 10 s)) = preE ((ls ++ [y]).map prL) (linesRd ((ls ++ [y]).length : Int) (spl 10 r))
    rw [line_pre hc hrl, preE_app, List.length_append, List.map_append, show ((ls.length + [y].length : Nat) : Int) = (ls.length : Int) + 1 from rfl]
    rfl
  · show (ls ++ [y]).length + r.length ≤ 2000
    rw [List.length_append, List.length_singleton]
    omega
  · intro z hz
    rcases List.mem_append.1 hz with hz | hz
    · exact h.k z hz
    · rw [List.mem_singleton.1 hz]
      exact readL_size (by omega) hrl
  · intro a ha
    rcases List.mem_append.1 ha with ha | ha
    · exact hy.w a ha
    · exact h.w a ha
  · intro w hw z hz
    rcases List.mem_append.1 hz with hz | hz
    · exact h.f w (fun a ha => hw a (List.mem_append_right _ ha)) z hz
    · rw [List.mem_singleton.1 hz]
      exact hy.f hok w (fun a ha => hw a (List.mem_append_left _ ha))
structure P2Y where
  k : Nat
  cur : List RlY
  at_ : List Atom
structure P2I (ls : List RlY) (y : P2Y) : Prop where
  k : y.k ≤ ls.length
  len : y.cur.length = ls.length
  drop : y.cur.drop y.k = ls.drop y.k
  nm : (y.cur.map RlY.x).map Rl.name = (ls.map RlY.x).map Rl.name
  res : resolveAll (ls.map RlY.x) 0 (ls.map prL) = preE ((y.cur.take y.k).map RlY.x) (resolveAll (ls.map RlY.x) (y.k : Int) ((ls.drop y.k).map prL))
  sm : ∀ z ∈ y.cur, RSm z.x
  w : ∀ a ∈ y.at_, a.w = false
  f : ∀ w, (∀ a ∈ y.at_, a.on w) → (∀ z ∈ y.cur, RlF z w) ∧ ∀ z ∈ ls, RlF z w
theorem P2I.start {ls : List RlY} {at_ : List Atom} (hk : ∀ z ∈ ls, z.x.name.length ≤ 2000 ∧ KSz 2000 z.x.name 2001 z.x z.refs) (hw : ∀ a ∈ at_, a.w = false) (hf : ∀ w, (∀ a ∈ at_, a.on w) → ∀ z ∈ ls, RlF z w) : P2I ls ⟨0, ls, at_⟩ := by
  refine ⟨Nat.zero_le _, rfl, rfl, rfl, ?_, fun z hz => ?_, hw, fun w h => ⟨hf w h, hf w h⟩⟩
  · exact (preE_nil _).symm
  · obtain ⟨h1, h2⟩ := hk z hz
    have a1 := h2.bs
    have a2 := h2.nn
    have a3 := h2.parts
    exact ⟨by omega, by omega, by omega, by rw [a3]; decide, fun s hs => by have := h2.each s hs; omega⟩
theorem P2I.at_k {ls cur : List RlY} {k : Nat} {at_ : List Atom} (h : P2I ls ⟨k, cur, at_⟩) (hk : k < ls.length) : ∃ y, cur[k]? = some y ∧ ls[k]? = some y := by
  have h1 := congrArg (fun l => l[0]?) h.drop
  simp only [List.getElem?_drop, Nat.add_zero] at h1
  exact ⟨_, h1.trans (List.getElem?_eq_getElem hk), List.getElem?_eq_getElem hk⟩
theorem P2I.res_k {ls cur : List RlY} {k : Nat} {at_ : List Atom} {y : RlY} (h : P2I ls ⟨k, cur, at_⟩) (hy : ls[k]? = some y) : resolveAll (ls.map RlY.x) (k : Int) ((ls.drop k).map prL) = (match resolve1 (cur.map RlY.x) (y.x, y.refs) with | none => .error (k : Int) | some r => preE [r] (resolveAll (ls.map RlY.x) ((k : Int) + 1) ((ls.drop (k + 1)).map prL))) := by
  have hlt := (List.getElem?_eq_some_iff.1 hy)
  obtain ⟨hk, he⟩ := hlt
  rw [List.drop_eq_getElem_cons hk, he, List.map_cons]
  show resolveAll (ls.map RlY.x) (k : Int) ((y.x, y.refs) :: (ls.drop (k + 1)).map prL) = _
  rw [resolveAll, resolve1_nm2 h.nm]
  cases resolve1 (ls.map RlY.x) (y.x, y.refs) with
  | none => rfl
  | some r =>
    simp only
    cases resolveAll (ls.map RlY.x) ((k : Int) + 1) ((ls.drop (k + 1)).map prL) <;> rfl
theorem P2I.no {ls cur : List RlY} {k : Nat} {at_ : List Atom} {y : RlY} (h : P2I ls ⟨k, cur, at_⟩) (hy : ls[k]? = some y) (hr : resolve1 (cur.map RlY.x) (y.x, y.refs) = none) : resolveAll (ls.map RlY.x) 0 (ls.map prL) = .error (k : Int) := by
  rw [h.res]
  show preE ((cur.take k).map RlY.x) (resolveAll (ls.map RlY.x) (k : Int) ((ls.drop k).map prL)) = _
  rw [h.res_k hy, hr]
  rfl
theorem P2I.next {ls cur : List RlY} {k : Nat} {at_ : List Atom} {y : RlY} {z : RsY} (h : P2I ls ⟨k, cur, at_⟩) (hy : cur[k]? = some y) (hy2 : ls[k]? = some y) (hz : RsI cur k y z) (hok : z.ok = true) (hks : KSz 2000 y.x.name 2001 y.x y.refs) : P2I ls ⟨k + 1, z.cur, z.ats ++ at_⟩ := by
  have hk : k < cur.length := (List.getElem?_eq_some_iff.1 hy).1
  have hk2 : k < ls.length := (List.getElem?_eq_some_iff.1 hy2).1
  have hcur := hz.cur hok
  have hyes := hz.yes hok
  obtain ⟨s1, s2, s3, s4, s5⟩ := resolve1_size hyes
  have hlen : cur.length = ls.length := h.len
  rw [hcur]
  refine ⟨hk2, by rw [List.length_set]; exact hlen, ?_, ?_, ?_, ?_, ?_, ?_⟩
  · show (cur.set k _).drop (k + 1) = ls.drop (k + 1)
    rw [List.drop_set_of_lt (by omega)]
    have h1 := congrArg (List.drop 1) (show cur.drop k = ls.drop k from h.drop)
    rw [List.drop_drop, List.drop_drop] at h1
    exact h1
  · have h1 : (cur.map RlY.x).map Rl.name = (ls.map RlY.x).map Rl.name := h.nm
    rw [← h1]
    apply List.ext_getElem?
    intro j
    simp only [List.getElem?_map, List.getElem?_set]
    by_cases e : k = j
    · subst e
      rw [if_pos rfl, if_pos hk, hy]
      simp only [Option.map_some]
      rw [s1]
    · rw [if_neg e]
  · rw [h.res]
    show preE ((cur.take k).map RlY.x) (resolveAll (ls.map RlY.x) (k : Int) ((ls.drop k).map prL)) = preE (((cur.set k _).take (k + 1)).map RlY.x) (resolveAll (ls.map RlY.x) ((k + 1 : Nat) : Int) ((ls.drop (k + 1)).map prL))
    rw [h.res_k hy2, hyes, show ((k + 1 : Nat) : Int) = (k : Int) + 1 from rfl]
    simp only
    rw [preE_app, List.take_add_one, List.getElem?_set, if_pos rfl, if_pos hk, List.take_set_of_le (Nat.le_refl _), List.map_append]
    rfl
  · intro x hx
    rcases List.mem_or_eq_of_mem_set hx with hx | hx
    · exact h.sm x hx
    · have hsm : RSm y.x := h.sm y (List.mem_of_getElem? hy)
      have hrf := hks.rf
      rw [hx]
      exact ⟨by rw [s1]; exact hsm.name, by rw [s2]; exact hsm.bs, by rw [s3]; exact hsm.names, (by show z.x.parts.length ≤ 1048576; omega), by rw [s3]; exact hsm.each⟩
  · intro a ha
    rcases List.mem_append.1 ha with ha | ha
    · exact hz.w a ha
    · exact h.w a ha
  · intro w hw
    obtain ⟨f1, f2⟩ := h.f w (fun a ha => hw a (List.mem_append_right _ ha))
    refine ⟨fun x hx => ?_, f2⟩
    rcases List.mem_or_eq_of_mem_set hx with hx | hx
    · exact f1 x hx
    · have fy : RlF y w := f1 y (List.mem_of_getElem? hy)
      rw [hx]
      refine ⟨⟨?_, ?_, hz.c hok, ?_, ?_, hz.f hok w (fun a ha => hw a (List.mem_append_left _ ha))⟩, fy.s, fy.c⟩
      · show z.x.bs.length ≤ y.cb
        rw [s2]
        exact fy.r.cb
      · show z.x.names.length ≤ y.cn
        rw [s3]
        exact fy.r.cn
      · show Rd w w.heap.size 1 y.Ab z.x.bs.length (bv z.x.bs)
        rw [s2]
        exact fy.r.b
      · show Rd w w.heap.size 1 y.An z.x.names.length (sv z.x.names)
        rw [s3]
        exact fy.r.n
theorem P2I.fin {ls cur : List RlY} {at_ : List Atom} (h : P2I ls ⟨ls.length, cur, at_⟩) : resolveAll (ls.map RlY.x) 0 (ls.map prL) = .ok (cur.map RlY.x) := by
  rw [h.res]
  show preE ((cur.take ls.length).map RlY.x) (resolveAll (ls.map RlY.x) (ls.length : Int) ((ls.drop ls.length).map prL)) = _
  rw [List.drop_length, List.map_nil, resolveAll, preE, List.append_nil, List.take_of_length_le (by rw [show cur.length = ls.length from h.len]; exact Nat.le_refl _)]
theorem map_prL (ls : List RlY) : (ls.map prL).map (·.1) = ls.map RlY.x := by rw [List.map_map]; rfl
end Go.Proofs.YtgdiadednlajgaaGreatDoor
namespace Go.Proofs.YtgdiadednlajgaaGreatDoor
open Go.RowKit
set_option linter.unusedVariables false
set_option linter.unusedSimpArgs false
def setI (st : Nat → Bool) (c : Nat) : List Int := ((List.range c).filter st).map fun (j : Nat) => (j : Int)
theorem setI_yes {st : Nat → Bool} {c : Nat} (h : st c = true) : setI st c ++ [(c : Int)] = setI st (c + 1) := by
  unfold setI
  rw [List.range_succ, List.filter_append, List.map_append, List.filter_cons_of_pos h]
  rfl
theorem setI_no {st : Nat → Bool} {c : Nat} (h : st c = false) : setI st c = setI st (c + 1) := by
  unfold setI
  rw [List.range_succ, List.filter_append, List.map_append, List.filter_cons_of_neg (by rw [h]; exact Bool.false_ne_true), List.filter_nil, List.map_nil, List.append_nil]
theorem setI_len (st : Nat → Bool) (c : Nat) : (setI st c).length ≤ c := by
  unfold setI
  rw [List.length_map]
  exact Nat.le_trans (List.length_filter_le _ _) (by simp)
def firI (F : List Rl) (k : Int) : List Int := setI ((firL F).getD k.toNat nilS) 256
theorem rd_set {w : World} {B b n k : Nat} {S : List (Nat → Bool)} (h : Rd w B 256 (some ⟨b, 0, none⟩) n (setsC S)) (hS : S.length = n) (hk : k < n) : w.rangeAt b (0 + k * 256) (setC (S.getD k nilS)) := fun q u hu => by
  rw [Nat.add_assoc]
  exact h.cellAt (by omega) (setsC_drop S k (by omega) q u hu)
def FsEnd (W : World) (l : List Int) (p : Int × Int) (e : Ending) (w' : World) : Prop := ∃ A c, e = .returned (.tuple #[.slice A l.length c, .agg #[.int .i64 p.1, .int .i64 p.2]]) ∧ Rd w' w'.heap.size 1 A l.length (iv l) ∧ l.length ≤ c ∧ Below W.heap.size W w'
def firstF (F : List Rl) (k : Int) : List Int := if chkN F k = (0, 0) then firI F k else []
theorem chk_ok {F : List Rl} {k : Int} (h : chkN F k = (0, 0)) : faultF F = (0, 0) ∧ 0 ≤ k ∧ k < F.length := by
  unfold chkN at h
  split at h
  · next hn => exact absurd h hn
  · next hn =>
    split at h
    · next hi =>
      have := inB_iff.1 hi
      exact ⟨Classical.byContradiction hn, by omega, by omega⟩
    · cases h
theorem fault_chk {F : List Rl} (h : faultF F = (0, 0)) : checkF F = (0, 0) := by
  unfold faultF at h
  split at h
  · next hn => exact absurd h hn
  · next hn => exact Classical.byContradiction hn
set_option maxRecDepth 100000 in
set_option maxHeartbeats 16000000 in
theorem first_calls {F : List Rl} {A : Option Addr} {n c : Nat} {k : Int} {W : World} (hf : FmIn W W.heap.size A n F) (hs : FSm F) (hc : n ≤ c) (hg : GV W) :
    Calls Tryz.prog 12 #[.agg #[.slice A n c], .int .i64 k] W (FsEnd W (firstF F k) (chkN F k)) := by
  have hlen : F.length = n := hf.1
  have HFM := Lib.hid hf
  have HS := Lib.hid hs
  have HG := Lib.hid hg
  have HLEN := Lib.hid hlen
  clear hf hs hg hlen
  obtain ⟨⟨a, b⟩, hab⟩ : ∃ p, chkN F k = p := ⟨_, rfl⟩
  have HC := Lib.hid hab
  rw [hab]
  clear hab
  go_enter Tryz.func12, Tryz.ntmps12
  refine s_go (M := []) (W := W) (N := 34) (E := [(0, .agg #[.slice A n c]), (1, .int .i64 k)]) (O := []) ?_ (Ag.cons (Ag.cons (Ag.nil rfl rfl) rfl) rfl) (Wd.start [] W)
  by_cases hz : a = 0 ∧ b = 0
  case neg =>
    have hne : (!(a == 0 && b == 0)) = true := by
      rw [Bool.not_eq_true', Bool.and_eq_false_iff, beq_eq_false_iff_ne, beq_eq_false_iff_ne]
      omega
    repeat (first | refine l_op (o_move rfl rfl (by decide) rfl rfl) ?_ | refine l_op (o_assign rfl rfl (by decide) rfl rfl) ?_ | refine l_op (o_loadN rfl rfl (by decide) rfl rfl (by first | exact fun w hw => hw.range_blk 0 rfl | exact fun w hw => hw.range_blk 1 rfl | exact fun w hw => hw.range_blk 2 rfl | exact fun w hw => hw.range_blk 3 rfl | exact fun w hw => hw.range_blk 4 rfl | exact fun w hw => hw.range_blk 5 rfl | exact fun w hw => hw.range_old (by assumption) (by simp)) (by first | rfl | exact setC_len _)) ?_ | refine l_loud (u_box rfl rfl rfl rfl) rfl (by decide) (fun bf _ => ?_) | refine l_loud (u_alloc (t := 27) rfl rfl) rfl (by decide) (fun b2 _ => ?_) | (refine l_op (o_call (f := 31) rfl rfl (by decide) rfl rfl (fun w hw => (checkNumber_calls (HFM.out.on hw.k.below) HS.out hc (HG.out.on hw.k.below)).mono (fun _ _ h => by rw [HC.out] at h; exact h))) ?_) | (refine l_loud0 (u_storeN 0 rfl rfl rfl rfl rfl rfl rfl (by simp)) rfl (fun _ _ => ?_); rw [putL_full (by rfl)]) | refine l_op (o_build (xs := []) (vs := []) (v := .agg #[.int .i64 0, .int .i64 0]) rfl rfl (by decide) rfl rfl (fun w => run_build w _ _ _ (by kernel_rfl))) ?_ | refine l_op (o_fneq rfl rfl (by decide) rfl rfl rfl hne) ?_ | refine l_nil ?_ | refine s_seq ?_ | refine s_region ?_ | refine s_cond_true rfl ?_)
    refine s_drawnO [2] (by kernel_rfl) ?_
    first | refine d_op 0 rfl (by kernel_rfl) (Through.rfl_) (o_loadN rfl rfl (by decide) rfl rfl (by first | exact fun w hw => hw.range_blk 0 rfl | exact fun w hw => hw.range_blk 1 rfl | exact fun w hw => hw.range_blk 2 rfl | exact fun w hw => hw.range_blk 3 rfl | exact fun w hw => hw.range_blk 4 rfl | exact fun w hw => hw.range_blk 5 rfl | exact fun w hw => hw.range_old (by assumption) (by simp)) (by first | rfl | exact setC_len _)) ?_
    first | refine d_op 1 rfl (by kernel_rfl) (Through.rfl_) (o_assign rfl rfl (by decide) rfl rfl) ?_
    refine d_loud0 2 (by kernel_rfl) rfl rfl (u_storeN 1 rfl rfl rfl rfl rfl rfl rfl (by simp)) (fun _ => .inl (by decide)) rfl (fun _ _ => ?_)
    rw [putL_full (by rfl)]
    refine d_end ?_ (by kernel_rfl)
    repeat (first | refine s_ret ?_ | refine x_then_ret ?_)
    have hff : firstF F k = [] := by
      unfold firstF
      rw [HC.out, if_neg (fun h => hz (by simpa using h))]
    rw [hff]
    exact x_body2 (by first | exact .inl rfl | exact .inr rfl) rfl (.tmp rfl) (RsV.blk 1 rfl rfl rfl) (fun w hw => ⟨none, 0, rfl, ⟨rfl, fun h => absurd h (by decide)⟩, Nat.le_refl _, hw.k.below⟩)
  case pos =>
    obtain ⟨rfl, rfl⟩ := hz
    have hff : firstF F k = firI F k := by
      unfold firstF
      rw [HC.out, if_pos rfl]
    rw [hff]
    clear hff
    obtain ⟨hfa, hk0, hkn⟩ := chk_ok HC.out
    have hch := fault_chk hfa
    have hlo := len_of hch
    have hn0 := hlo.1
    have hn40 := hlo.2
    rw [HLEN.out] at hn0 hn40 hkn
    have HF := Lib.hid (pok_of hch).fok
    clear hlo hch hfa
    obtain ⟨st, hst⟩ : ∃ st, (firL F).getD k.toNat nilS = st := ⟨_, rfl⟩
    unfold firI
    rw [hst]
    have HST := Lib.hid hst
    clear hst
    have hk2 : 0 ≤ k ∧ k < (n : Int) := ⟨hk0, hkn⟩
    repeat (first | refine l_op (o_move rfl rfl (by decide) rfl rfl) ?_ | refine l_op (o_assign rfl rfl (by decide) rfl rfl) ?_ | refine l_op (o_loadN rfl rfl (by decide) rfl rfl (by first | exact fun w hw => hw.range_blk 0 rfl | exact fun w hw => hw.range_blk 1 rfl | exact fun w hw => hw.range_blk 2 rfl | exact fun w hw => hw.range_blk 3 rfl | exact fun w hw => hw.range_blk 4 rfl | exact fun w hw => hw.range_blk 5 rfl | exact fun w hw => hw.range_old (by assumption) (by simp)) (by first | rfl | exact setC_len _)) ?_ | refine l_loud (u_box rfl rfl rfl rfl) rfl (by decide) (fun bf _ => ?_) | refine l_loud (u_alloc (t := 27) rfl rfl) rfl (by decide) (fun b2 _ => ?_) | (refine l_op (o_call (f := 31) rfl rfl (by decide) rfl rfl (fun w hw => (checkNumber_calls (HFM.out.on hw.k.below) HS.out hc (HG.out.on hw.k.below)).mono (fun _ _ h => by rw [HC.out] at h; exact h))) ?_) | (refine l_loud0 (u_storeN 0 rfl rfl rfl rfl rfl rfl rfl (by simp)) rfl (fun _ _ => ?_); rw [putL_full (by rfl)]) | refine l_op (o_build (xs := []) (vs := []) (v := .agg #[.int .i64 0, .int .i64 0]) rfl rfl (by decide) rfl rfl (fun w => run_build w _ _ _ (by kernel_rfl))) ?_ | refine l_op (o_fneq rfl rfl (by decide) rfl rfl rfl rfl) ?_ | refine l_loud (u_call _ _ _ (f := 32) rfl rfl rfl (fun w hw => firsts_wd HFM.out HF.out hn40 hn0 hw)) rfl (by decide) (fun y _ => ?_) | refine l_op (o_indexAddrI rfl rfl (by decide) rfl rfl rfl hk2) ?_ | (refine l_op (o_loadN (cs := setC st) rfl rfl (by decide) rfl rfl (fun w hw => by rw [← HST.out]; exact rd_set (hw.own 0 _ rfl) ((firL_len F).trans HLEN.out) (by omega)) (setC_len _)) ?_) | refine l_nil ?_ | refine s_seq ?_ | refine s_region ?_ | refine s_skip ?_ | refine s_cond_false rfl ?_ | refine s_block ?_)
    rename_i b3 _ _ _ _ _
    refine s_row 3 1 ?_
    refine s_loop (ι := Nat × Option Addr × Nat) (fun y => y.1 ≤ 256) (fun y => 256 - y.1) (fun y => [(5, .pointer (some ⟨b3, 0, none⟩)), (7, .slice y.2.1 (setI st y.1).length y.2.2), (21, .agg (setC st).toArray), (22, .int .i64 (y.1 : Int))]) (fun y => [.row y.2.1 (setI st y.1).length y.2.2 3 1 (iv (setI st y.1)), .blk b3 (.cells [.int .i64 0, .int .i64 0].toArray 27 (0, 0))]) (0, none, 0) [0, 3] (by decide) (Nat.zero_le _) (.cons rfl rfl (.cons rfl rfl (.cons rfl rfl (.cons rfl rfl .nil)))) rfl ?_
    rintro ⟨i, A', c'⟩ hi
    have hi' : i ≤ 256 := hi
    clear hi
    have hsl := setI_len st i
    show sE _ _ _ _ _ [(5, .pointer (some ⟨b3, 0, none⟩)), (7, .slice A' (setI st i).length c'), (21, .agg (setC st).toArray), (22, .int .i64 (i : Int))] [.row A' (setI st i).length c' 3 1 (iv (setI st i)), .blk b3 (.cells [.int .i64 0, .int .i64 0].toArray 27 (0, 0))] _
    by_cases hin : i < 256
    · obtain ⟨s, hs⟩ : ∃ s, st i = s := ⟨_, rfl⟩
      have hcell : (setC st)[i]? = some (.bool s) := by rw [setC_at st hin, hs]
      have HSI := Lib.hid hs
      clear hs
      cases s with
      | true =>
        repeat (first | refine l_op (o_move rfl rfl (by decide) rfl rfl) ?_ | refine l_op (o_assign rfl rfl (by decide) rfl rfl) ?_ | refine l_op (o_index (v := .bool true) rfl rfl (by decide) rfl rfl rfl hin hcell) ?_ | refine l_loud (u_slice1 (size := 1) (cs := [.int .i64 (i : Int)]) rfl rfl rfl rfl rfl (by decide)) rfl (by decide) (fun bn _ => ?_) | refine l_loud (u_append (news := [.int .i64 (i : Int)]) 1 rfl rfl rfl rfl rfl (fun w hw => hw.rd_blk 0 rfl rfl) (by simp [Value.oneCell']) (by omega)) rfl (by decide) (fun yz _ => ?_) | refine l_nil ?_ | refine s_seq ?_ | refine s_region ?_ | refine s_skip ?_ | refine s_cond_true rfl ?_ | refine s_block ?_ | refine l_op (o_lss rfl rfl (by decide) rfl rfl rfl (by first | assumption | exact decide_eq_true (by omega) | exact decide_eq_false (by omega) | rfl)) ?_ | refine l_op (o_add (k := .i64) rfl rfl (by decide) rfl rfl rfl (IntWalk.i64_in _ (by omega))) ?_)
        refine x_round (i + 1, yz.1, yz.2) [1, 2] (by decide) hin (by show 256 - (i + 1) < 256 - i; omega) (.cons rfl rfl (.cons rfl ?_ (.cons rfl rfl (.cons rfl (by go_num) .nil)))) ?_
        · rw [← setI_yes HSI.out, List.length_append]
          rfl
        · show [Atom.row yz.1 ((setI st i).length + 1) yz.2 _ _ (iv (setI st i) ++ iv [(i : Int)]), _] = [Atom.row yz.1 (setI st (i + 1)).length yz.2 _ _ (iv (setI st (i + 1))), _]
          rw [← setI_yes HSI.out, List.length_append, iv_app]
          rfl
      | false =>
        have hno := setI_no HSI.out
        repeat (first | refine l_op (o_move rfl rfl (by decide) rfl rfl) ?_ | refine l_op (o_assign rfl rfl (by decide) rfl rfl) ?_ | refine l_op (o_index (v := .bool false) rfl rfl (by decide) rfl rfl rfl hin hcell) ?_ | refine l_nil ?_ | refine s_seq ?_ | refine s_region ?_ | refine s_skip ?_ | refine s_cond_true rfl ?_ | refine s_cond_false rfl ?_ | refine s_block ?_ | refine l_op (o_lss rfl rfl (by decide) rfl rfl rfl (by first | assumption | exact decide_eq_true (by omega) | exact decide_eq_false (by omega) | rfl)) ?_ | refine l_op (o_add (k := .i64) rfl rfl (by decide) rfl rfl rfl (IntWalk.i64_in _ (by omega))) ?_)
        refine x_round (i + 1, A', c') [0, 1] (by decide) hin (by show 256 - (i + 1) < 256 - i; omega) (.cons rfl rfl (.cons rfl ?_ (.cons rfl rfl (.cons rfl (by go_num) .nil)))) ?_
        · rw [← hno]
        · show [Atom.row A' (setI st i).length c' _ _ (iv (setI st i)), _] = [Atom.row A' (setI st (i + 1)).length c' _ _ (iv (setI st (i + 1))), _]
          rw [← hno]
          rfl
    · obtain rfl : i = 256 := by omega
      repeat (first | refine l_op (o_move rfl rfl (by decide) rfl rfl) ?_ | refine l_op (o_assign rfl rfl (by decide) rfl rfl) ?_ | refine l_op (o_build (xs := []) (vs := []) (v := .agg #[.int .i64 0, .int .i64 0]) rfl rfl (by decide) rfl rfl (fun w => run_build w _ _ _ (by kernel_rfl))) ?_ | (refine l_loud0 (u_storeN 1 rfl rfl rfl rfl rfl rfl rfl (by simp)) rfl (fun _ _ => ?_); rw [putL_full (by rfl)]) | refine l_nil ?_ | refine s_seq ?_ | refine s_region ?_ | refine s_cond_false rfl ?_ | refine s_exit ?_ | refine s_ret ?_ | refine l_op (o_lss rfl rfl (by decide) rfl rfl rfl (by first | assumption | exact decide_eq_true (by omega) | exact decide_eq_false (by omega) | rfl)) ?_)
      exact x_body2 (by first | exact .inl rfl | exact .inr rfl) rfl (.tmp rfl) (RsV.blk 1 rfl rfl rfl) (fun w hw => ⟨A', c', rfl, (row_rd (hw.own 0 _ rfl) (by decide)).1, (row_rd (hw.own 0 _ rfl) (by decide)).2, hw.k.below⟩)
end Go.Proofs.YtgdiadednlajgaaGreatDoor
namespace Go.Proofs.YtgdiadednlajgaaGreatDoor
set_option linter.unusedVariables false
def slk : List Int → Nat
  | [] => 0
  | x :: l => (1001 - x).toNat + slk l
theorem slk_set : ∀ (l : List Int) (k : Nat) (v : Int), k < l.length → slk (l.set k v) + (1001 - l.getD k 0).toNat = slk l + (1001 - v).toNat
  | [], k, v, h => absurd h (by simp)
  | x :: l, 0, v, _ => by
    show (1001 - v).toNat + slk l + (1001 - x).toNat = (1001 - x).toNat + slk l + (1001 - v).toNat
    omega
  | x :: l, k + 1, v, h => by
    have ih := slk_set l k v (by simpa using h)
    show (1001 - x).toNat + slk (l.set k v) + (1001 - l.getD k 0).toNat = (1001 - x).toNat + slk l + (1001 - v).toNat
    omega
theorem getD_set_int (l : List Int) (k i : Nat) (b : Int) (hk : k < l.length) : (l.set k b).getD i 0 = if i = k then b else l.getD i 0 := by
  rw [List.getD_eq_getElem?_getD, List.getElem?_set, List.getD_eq_getElem?_getD]
  by_cases h : k = i
  · subst h; simp [hk]
  · rw [if_neg h, if_neg (fun e => h e.symm)]
structure Lst (F : List Rl) (out : List Int) : Prop where
  len : out.length = F.length
  nn : ∀ j : Nat, 0 ≤ out.getD j 0
  top : ∀ j : Nat, out.getD j 0 ≤ 1001
  post : ∀ (i : Nat) (r : Rl), F[i]? = some r → out.getD i 0 ≤ min (oneT F out r) 1001
section
variable {F : List Rl}
theorem min_mono (a b : List Int) (h : ∀ j : Nat, a.getD j 0 ≤ b.getD j 0) : ∀ (l : List Int) (m n : Int), m ≤ n → l.foldl (fun s x => min s (lk a x)) m ≤ l.foldl (fun s x => min s (lk b x)) n
  | [], m, n, h0 => h0
  | x :: l, m, n, h0 => by
    rw [List.foldl_cons, List.foldl_cons]
    refine min_mono a b h l _ _ ?_
    have : lk a x ≤ lk b x := h _
    omega
theorem oneT_mono (hv : Usd F) {a b : List Int} (hab : ∀ j : Nat, a.getD j 0 ≤ b.getD j 0) {i : Nat} {r : Rl} (hr : F[i]? = some r) : oneT F a r ≤ oneT F b r := by
  have hl : ∀ x, lk a x ≤ lk b x := fun x => hab _
  unfold oneT
  split
  · exact Int.le_refl _
  split
  · exact Int.le_refl _
  split
  · exact Int.le_refl _
  split
  · next h => have := hl r.count; omega
  split
  · next h =>
    have h1 := hl r.count
    have h2 := Int.mul_le_mul_of_nonneg_left (hl r.elem) (hv.least hr (.inl h)).1
    omega
  split
  · exact foldl_sum_ge b a r.parts 0 0 (Int.le_refl _) fun x _ => hl x
  split
  · exact min_mono a b hab r.parts 1001 1001 (Int.le_refl _)
  · exact Int.le_refl _
theorem Lst.start (F : List Rl) (h : ∀ (i : Nat) (r : Rl), F[i]? = some r → 0 ≤ oneT F (List.replicate F.length 0) r) : Lst F (List.replicate F.length 0) := by
  have h0 : ∀ j : Nat, (List.replicate F.length (0 : Int)).getD j 0 = 0 := fun j => by
    rw [List.getD_eq_getElem?_getD, List.getElem?_replicate]
    split <;> rfl
  refine ⟨List.length_replicate, fun j => by rw [h0]; omega, fun j => by rw [h0]; omega, fun i r hr => ?_⟩
  rw [h0]
  have := h i r hr
  omega
theorem foldl_min_nn (a : List Int) (h : ∀ j : Nat, 0 ≤ a.getD j 0) (l : List Int) (n : Int) (hn : 0 ≤ n) : 0 ≤ l.foldl (fun s x => min s (lk a x)) n := by
  rcases foldl_min_at a l n with e | ⟨x, _, e⟩
  · rw [e]; exact hn
  · rw [e]; exact h _
theorem oneT_nn (hv : Usd F) {a : List Int} (h : ∀ j : Nat, 0 ≤ a.getD j 0) {i : Nat} {r : Rl} (hr : F[i]? = some r) : 0 ≤ oneT F a r := by
  have hok := hv.ok i r hr
  have hl : ∀ x, 0 ≤ lk a x := fun x => h _
  unfold oneT
  split
  · omega
  split
  · next h24 =>
    rcases h24 with h2 | h4
    · have := (hok.num h2).1; omega
    · have := (hok.size4 h4).1; omega
  split
  · omega
  split
  · next h => have := hl r.count; have := (hv.least hr (.inr h)).1; omega
  split
  · next h =>
    have h1 := hl r.count
    have h2 := Int.mul_nonneg (hv.least hr (.inl h)).1 (hl r.elem)
    omega
  split
  · have := (foldl_sum_mem a r.parts 0 fun x _ => hl x).1
    unfold sumT
    omega
  split
  · exact foldl_min_nn a h _ _ (by omega)
  · omega
theorem Lst.put (hv : Usd F) {out : List Int} (h : Lst F out) {k : Nat} {r : Rl} (hr : F[k]? = some r) : Lst F (out.set k (min (oneT F out r) 1001)) := by
  have hk : k < out.length := by rw [h.len]; exact (List.getElem?_eq_some_iff.1 hr).1
  have hp := h.post k r hr
  have h0 := h.nn k
  have hge : ∀ j : Nat, out.getD j 0 ≤ (out.set k (min (oneT F out r) 1001)).getD j 0 := fun j => by
    rw [getD_set_int _ _ _ _ hk]
    split
    · next e => subst e; exact hp
    · exact Int.le_refl _
  refine ⟨by rw [List.length_set]; exact h.len, fun j => Int.le_trans (h.nn j) (hge j), fun j => ?_, fun i q hq => ?_⟩
  · rw [getD_set_int _ _ _ _ hk]
    split
    · omega
    · exact h.top j
  · have hm := oneT_mono hv hge hq
    rw [getD_set_int _ _ _ _ hk]
    split
    · next e => subst e; rw [hr] at hq; cases hq; omega
    · have := h.post i q hq; omega
theorem Lst.slk_lt {out : List Int} (h : Lst F out) {k : Nat} {r : Rl} (hr : F[k]? = some r) (hne : min (oneT F out r) 1001 ≠ out.getD k 0) : slk (out.set k (min (oneT F out r) 1001)) < slk out := by
  have hk : k < out.length := by rw [h.len]; exact (List.getElem?_eq_some_iff.1 hr).1
  have hp := h.post k r hr
  have := slk_set out k (min (oneT F out r) 1001) hk
  omega
theorem Lst.fix {out : List Int} (h : Lst F out) (he : ∀ (i : Nat) (r : Rl), F[i]? = some r → min (oneT F out r) 1001 = out.getD i 0) : IsFix F out := ⟨h.len, fun i r hr => (he i r hr).symm, h.nn⟩
end
end Go.Proofs.YtgdiadednlajgaaGreatDoor
