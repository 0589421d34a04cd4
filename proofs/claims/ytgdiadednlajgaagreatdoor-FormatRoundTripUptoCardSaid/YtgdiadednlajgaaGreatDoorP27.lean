import Derived.Test.YtgdiadednlajgaaGreatDoorP26
namespace Go.Proofs.YtgdiadednlajgaaGreatDoor
set_option linter.unusedVariables false
theorem findR_map (F : List Rl) (s : List UInt8) : findR F s = match (F.map (·.name)).findIdx? (· == s) with | some i => (i : Int) | none => -1 := by
  unfold findR
  rw [List.findIdx?_map]
  rfl
theorem findR_names {F G : List Rl} (h : F.map (·.name) = G.map (·.name)) (s : List UInt8) : findR F s = findR G s := by rw [findR_map, findR_map, h]
theorem findR_spec {F : List Rl} {s : List UInt8} (h : ¬ findR F s < 0) : ∃ r, F[(findR F s).toNat]? = some r ∧ r.name = s := by
  unfold findR at h ⊢
  cases hf : F.findIdx? (fun r => r.name == s) with
  | none => rw [hf] at h; exact absurd (by decide) h
  | some i =>
    rw [List.findIdx?_eq_some_iff_getElem] at hf
    obtain ⟨h1, h2, _⟩ := hf
    refine ⟨F[i], ?_, by simpa using h2⟩
    simp only
    rw [Int.toNat_natCast]
    exact List.getElem?_eq_getElem h1
theorem findR_none {F : List Rl} {s : List UInt8} (h : findR F s < 0) : ∀ (j : Nat) (r : Rl), F[j]? = some r → ¬ r.name = s := by
  unfold findR at h
  cases hf : F.findIdx? (fun r => r.name == s) with
  | some i => rw [hf] at h; simp only at h; omega
  | none =>
    rw [List.findIdx?_eq_none_iff] at hf
    intro j r hr hn
    have := hf r (List.mem_of_getElem? hr)
    rw [hn] at this
    simp at this
theorem ruleC_name {r : Rl} {early : List Rl} {n : Nat} (h : ruleC r early n = 0) : isName r.name = true ∧ findR early r.name < 0 := by
  unfold ruleC at h
  split at h
  · cases h
  next h1 =>
  split at h
  · cases h
  next h2 =>
  refine ⟨by simpa using h1, ?_⟩
  simpa using h2
theorem firstC_zero {g : Nat → Int} : ∀ (n i : Nat), firstC g i n = 0 → ∀ j, i ≤ j → j < i + n → g j = 0
  | 0, i, _, j, h1, h2 => absurd h1 (by omega)
  | n + 1, i, h, j, h1, h2 => by
    rw [firstC] at h
    split at h
    · next h0 =>
      rcases Nat.eq_or_lt_of_le h1 with rfl | h3
      · exact h0
      · exact firstC_zero n (i + 1) h j h3 (by omega)
    · next h0 => exact absurd h h0
theorem useC_names {F : List Rl} {r : Rl} (h : useC F r = 0) (hk : r.kind = 7) : ∀ s ∈ r.names, s = [] ∨ isName s = true := by
  have hc : useCount r.kind = false := by rw [hk]; rfl
  unfold useC at h
  rw [hc, hk] at h
  have h : firstC (nameC F r.names r.parts) 0 r.names.length = 0 := h
  intro s hs
  obtain ⟨j, hj, e⟩ := List.mem_iff_getElem.1 hs
  have h0 := firstC_zero _ _ h j (by omega) (by omega)
  unfold nameC at h0
  rw [List.getD_eq_getElem?_getD, List.getElem?_eq_getElem hj, e] at h0
  simp only [Option.getD_some] at h0
  split at h0
  · next h1 => exact .inl (by simpa using h1)
  · split at h0
    · cases h0
    · next h2 => exact .inr (by simpa using h2)
structure POk (F : List Rl) : Prop where
  rule : ∀ j, j < F.length → ruleAt F j = 0
  use : ∀ j, j < F.length → useAt F j = 0
theorem pok_of {F : List Rl} (h : checkF F = (0, 0)) : POk F := by
  unfold checkF at h
  split at h
  · cases h
  split at h
  · cases h
  cases h1 : firstN F.length (fun k => ruleAt F k != 0) with
  | some k => rw [h1] at h; have := (firstN_at h1).2.1; simp only [Prod.mk.injEq] at h; rw [h.1] at this; cases this
  | none =>
    rw [h1] at h
    simp only at h
    cases h2 : firstN F.length (fun k => useAt F k != 0) with
    | some k => rw [h2] at h; have := (firstN_at h2).2.1; simp only [Prod.mk.injEq] at h; rw [h.1] at this; cases this
    | none => exact ⟨fun j hj => by simpa using firstN_of h1 j hj, fun j hj => by simpa using firstN_of h2 j hj⟩
section
variable {F : List Rl}
theorem POk.name (h : POk F) {i : Nat} {r : Rl} (hr : F[i]? = some r) : isName r.name = true ∧ findR (F.take i) r.name < 0 := by
  have := h.rule i (List.getElem?_eq_some_iff.1 hr).1
  rw [ruleAt_eq hr] at this
  exact ruleC_name this
theorem POk.fok (h : POk F) : FOk F := fok_of h.rule
theorem POk.self (h : POk F) {i : Nat} {r : Rl} (hr : F[i]? = some r) : findR F r.name = (i : Int) :=
  findR_yes hr rfl fun j r' hj hr' => findR_none (h.name hr).2 j r' (by rw [List.getElem?_take, if_pos hj]; exact hr')
theorem POk.find (h : POk F) {x : Int} (hx : 0 ≤ x ∧ x < F.length) : isName (nmAt F x) = true ∧ findR F (nmAt F x) = x := by
  have hr : F[x.toNat]? = some F[x.toNat] := List.getElem?_eq_getElem (by omega)
  rw [nmAt_eq hr]
  refine ⟨(h.name hr).1, ?_⟩
  rw [h.self hr]
  omega
theorem POk.line (h : POk F) {i : Nat} {r : Rl} (hr : F[i]? = some r) : LOk F r :=
  ⟨h.fok i r hr, (h.name hr).1, fun x hx => (h.find hx).1, fun hk => useC_names (by
    have := h.use i (List.getElem?_eq_some_iff.1 hr).1
    rwa [useAt_eq hr] at this) hk⟩
theorem refs_nums (F : List Rl) (r : Rl) : refsOf F r = (numsOf r).map (nmAt F) := by
  unfold refsOf numsOf
  rw [List.map_append, List.map_append]
  cases useCount r.kind <;> cases useOf r.kind <;> rfl
theorem nums_in {n : Nat} {r : Rl} (h : ROk n r) : ∀ x ∈ numsOf r, 0 ≤ x ∧ x < n := by
  intro x hx
  unfold numsOf at hx
  rw [List.mem_append, List.mem_append] at hx
  rcases hx with (hx | hx) | hx
  · split at hx
    · next hu =>
      rw [List.mem_singleton.1 hx]
      refine h.count ?_
      unfold useCount hasB at hu
      simp at hu
      omega
    · cases hx
  · split at hx
    · next hu =>
      rw [List.mem_singleton.1 hx]
      refine h.elem ?_
      unfold useOf hasB at hu
      simp at hu
      omega
    · cases hx
  · by_cases hk : r.kind = 7 ∨ r.kind = 8
    · exact h.parts hk x hx
    · rw [(zr_of h).parts (by omega) (by omega)] at hx
      cases hx
theorem join_mem {c : UInt8} {sep : List UInt8} : ∀ {ws : List (List UInt8)}, c ∈ Lib.join ws sep → c ∈ sep ∨ ∃ w ∈ ws, c ∈ w
  | [], h => by cases h
  | [x], h => by rw [Lib.join_one] at h; exact .inr ⟨x, List.mem_cons_self, h⟩
  | x :: y :: r, h => by
    rw [Lib.join_cons, joinTail_cons, List.mem_append, List.mem_append] at h
    rcases h with h | h | h
    · exact .inr ⟨x, List.mem_cons_self, h⟩
    · exact .inl h
    · have h' : c ∈ Lib.join (y :: r) sep := by rw [Lib.join_cons]; exact h
      rcases join_mem h' with h | ⟨w, hw, h⟩
      · exact .inl h
      · exact .inr ⟨w, List.mem_cons_of_mem _ hw, h⟩
theorem words_ok {r : Rl} (h : LOk F r) : ∀ w ∈ lineWs F r, Wok w := by
  have hz := zr_of h.ok
  have hk := h.ok.kind
  have hnm : ∀ x : Int, 0 ≤ x ∧ x < F.length → Wok (nmAt F x) := fun x hx => (name_ok (h.all x hx)).1
  have hifw : ∀ (u : Bool) (s w : List UInt8), (u = true → Wok s) → w ∈ ifW u s → Wok w := by
    intro u s w hs hw
    unfold ifW at hw
    split at hw
    · next hu => rw [List.mem_singleton.1 hw]; exact hs hu
    · cases hw
  have u3 : ∀ {k : Int}, useStop k = true → k = 3 ∨ k = 5 ∨ k = 9 := fun {k} hu => by unfold useStop hasB at hu; simpa using hu
  have u4 : ∀ {k : Int}, useSize k = true → k = 2 ∨ k = 4 ∨ k = 5 := fun {k} hu => by unfold useSize hasB at hu; simpa using hu
  have u5 : ∀ {k : Int}, useMax k = true → k = 2 ∨ k = 3 := fun {k} hu => by unfold useMax hasB at hu; simpa using hu
  have u6 : ∀ {k : Int}, useCount k = true → k = 6 ∨ k = 10 := fun {k} hu => by unfold useCount hasB at hu; simpa using hu
  have u7 : ∀ {k : Int}, useOf k = true → k = 6 ∨ k = 9 := fun {k} hu => by unfold useOf hasB at hu; simpa using hu
  intro w hw
  unfold lineWs headWs at hw
  simp only [List.mem_append] at hw
  rcases hw with (((((((((hw | hw) | hw) | hw) | hw) | hw) | hw) | hw) | hw)) | hw
  · rcases List.mem_cons.1 hw with rfl | hw
    · exact (name_ok h.name).1
    · rw [List.mem_singleton.1 hw]; exact kindW_wok hk
  · exact hifw _ _ _ (fun _ => hexL_wok _) hw
  · exact hifw _ _ _ (fun hu => itoa_wok (h.ok.stop (u3 hu)).1) hw
  · refine hifw _ _ _ (fun hu => itoa_wok ?_) hw
    rcases u4 hu with h2 | h4 | h5
    · have := (h.ok.num h2).1; omega
    · have := (h.ok.size4 h4).1; omega
    · exact (h.ok.size5 h5).1
  · refine hifw _ _ _ (fun _ => ?_) hw
    split
    · exact ⟨by decide, by decide⟩
    · exact ⟨by decide, by decide⟩
  · refine hifw _ _ _ (fun hu => itoa_wok ?_) hw
    have h2 : r.kind = 2 := by simpa using hu
    exact (h.ok.num h2).2.2.1
  · refine hifw _ _ _ (fun hu => itoa_wok ?_) hw
    rcases u5 hu with h2 | h3
    · have := h.ok.num h2; omega
    · exact (h.ok.dec h3).1
  · exact hifw _ _ _ (fun hu => hnm _ (h.ok.count (u6 hu))) hw
  · exact hifw _ _ _ (fun hu => hnm _ (h.ok.elem (u7 hu))) hw
  · by_cases h7 : r.kind = 7
    · rw [parts_7 F h7 (h.ok.seven h7).1, List.mem_iff_getElem] at hw
      obtain ⟨i, hi, e⟩ := hw
      rw [List.getElem_zipWith] at e
      have hi' : i < r.names.length ∧ i < r.parts.length := by rw [List.length_zipWith] at hi; omega
      have hn := h.part h7 _ (List.getElem_mem hi'.1)
      have hp := hnm _ (h.ok.parts (.inl h7) _ (List.getElem_mem hi'.2))
      rw [← e]
      unfold wordP
      obtain ⟨n, hne⟩ : ∃ n, n = r.names[i] := ⟨_, rfl⟩
      rw [← hne] at hn ⊢
      have hN : Wok (if n == [] then [45] else n) := by
        split
        · exact ⟨by decide, by decide⟩
        · next hne =>
          rcases hn with rfl | hn
          · exact absurd rfl hne
          · exact (name_ok hn).1
      refine ⟨fun hm => ?_, fun hm => ?_⟩
      · rw [List.mem_append, List.mem_append] at hm
        rcases hm with (hm | hm) | hm
        · exact hN.1 hm
        · exact absurd hm (by decide)
        · exact hp.1 hm
      · rw [List.mem_append, List.mem_append] at hm
        rcases hm with (hm | hm) | hm
        · exact hN.2 hm
        · exact absurd hm (by decide)
        · exact hp.2 hm
    · rw [parts_8 F h7, List.mem_map] at hw
      obtain ⟨p, hp, rfl⟩ := hw
      by_cases h8 : r.kind = 8
      · exact hnm _ (h.ok.parts (.inr h8) p hp)
      · rw [hz.parts h7 h8] at hp; cases hp
theorem lineWs_cons (F : List Rl) (r : Rl) : ∃ ws, lineWs F r = r.name :: ws := by
  unfold lineWs headWs
  exact ⟨_, by simp only [List.cons_append, List.nil_append, List.append_assoc]; rfl⟩
theorem readL_line {r : Rl} (h : LOk F r) : readL (Lib.join (lineWs F r) [32]) = some (strip r, refsOf F r) := by
  unfold readL
  obtain ⟨ws, e⟩ := lineWs_cons F r
  have hw := words_ok h
  rw [e] at hw
  rw [e, spl_join _ _ (fun w hw' => (hw w hw').1), ← e]
  exact readW_line h
theorem spl_text : ∀ G : List Rl, (∀ r ∈ G, LOk F r) → spl 10 ((G.map (lineB F)).flatten) = G.map (fun r => Lib.join (lineWs F r) [32]) ++ [[]]
  | [], _ => rfl
  | r :: G, h => by
    rw [List.map_cons, List.flatten_cons, lineB, List.append_assoc, List.singleton_append, spl_app, spl_text G fun r hr => h r (List.mem_cons_of_mem _ hr)]
    · rfl
    · intro hm
      rcases join_mem hm with hm | ⟨w, hw, hm⟩
      · exact absurd hm (by decide)
      · exact (words_ok (h r List.mem_cons_self) w hw).2 hm
theorem linesRd_text : ∀ (G : List Rl) (k : Int), (∀ r ∈ G, LOk F r) → linesRd k (G.map (fun r => Lib.join (lineWs F r) [32]) ++ [[]]) = .ok (G.map fun r => (strip r, refsOf F r))
  | [], k, _ => rfl
  | r :: G, k, h => by
    have ih := linesRd_text G (k + 1) fun r hr => h r (List.mem_cons_of_mem _ hr)
    rw [List.map_cons, List.cons_append]
    cases hL : G.map (fun r => Lib.join (lineWs F r) [32]) ++ [[]] with
    | nil => simp at hL
    | cons m t =>
      rw [hL] at ih
      rw [linesRd, readL_line (h r List.mem_cons_self)]
      simp only
      rw [ih]
      rfl
theorem places_map {G F : List Rl} : ∀ l : List Int, (∀ x ∈ l, findR G (nmAt F x) = x ∧ 0 ≤ x) → places G (l.map (nmAt F)) = some l
  | [], _ => rfl
  | x :: l, h => by
    have hx := h x List.mem_cons_self
    rw [List.map_cons, places, hx.1, if_neg (by omega), places_map l fun y hy => h y (List.mem_cons_of_mem _ hy)]
    rfl
theorem resolveAll_text (h : POk F) {F0 : List Rl} (hF : ∀ s, findR F0 s = findR F s) : ∀ (G : List Rl) (k : Int), (∀ r ∈ G, LOk F r) → resolveAll F0 k (G.map fun r => (strip r, refsOf F r)) = .ok G
  | [], k, _ => rfl
  | r :: G, k, hG => by
    have hr := hG r List.mem_cons_self
    rw [List.map_cons, resolveAll]
    have e : resolve1 F0 (strip r, refsOf F r) = some r := by
      unfold resolve1
      simp only
      rw [refs_nums, places_map (numsOf r) fun x hx => ⟨by rw [hF]; exact (h.find (nums_in hr.ok x hx)).2, (nums_in hr.ok x hx).1⟩, Option.map_some, putRefs_nums hr.ok]
    rw [e, resolveAll_text h hF G (k + 1) fun r hr => hG r (List.mem_cons_of_mem _ hr)]
theorem parse_text (hf : faultF F = (0, 0)) : parseF (textF F) = (F, 0, 0) := by
  have hc : checkF F = (0, 0) := by
    unfold faultF at hf
    split at hf
    · next h => exact absurd hf h
    · next h => exact Classical.byContradiction h
  have hlen : ¬ 2000 < (textF F).length := by
    intro h
    unfold faultF at hf
    rw [if_neg (by rw [hc]; simp), if_pos h] at hf
    cases hf
  have h := pok_of hc
  have hG : ∀ r ∈ F, LOk F r := fun r hr => by
    obtain ⟨i, hi, e⟩ := List.mem_iff_getElem.1 hr
    exact h.line (i := i) (by rw [List.getElem?_eq_getElem hi, e])
  unfold parseF
  rw [if_neg hlen]
  have e1 : spl 10 (textF F) = _ := spl_text F hG
  rw [e1, linesRd_text F 0 hG]
  simp only
  rw [List.map_map, resolveAll_text h (fun s => findR_names (by rw [List.map_map]; rfl) s) F 0 hG]
  simp only
  rw [hf]
  rfl
/-! the other way -/
theorem places_names {G F : List Rl} (H : ∀ s, ¬ findR G s < 0 → nmAt F (findR G s) = s) : ∀ {l : List (List UInt8)} {ns : List Int}, places G l = some ns → ns.map (nmAt F) = l
  | [], ns, h => by cases h; rfl
  | s :: l, ns, h => by
    rw [places] at h
    split at h
    · cases h
    · next h0 =>
      cases hp : places G l with
      | none => rw [hp] at h; cases h
      | some t =>
        rw [hp] at h
        cases h
        rw [List.map_cons, H s h0, places_names H hp]
theorem lines_back {F0 F : List Rl} (H : ∀ s, ¬ findR F0 s < 0 → nmAt F (findR F0 s) = s) : ∀ {L : List (List UInt8)} {xs : List (Rl × List (List UInt8))} {G : List Rl} {k j : Int}, linesRd k L = .ok xs → resolveAll F0 j xs = .ok G → (G.map (lineB F)).flatten = Lib.join L [10]
  | [], xs, G, k, j, h1, h2 => by cases h1; cases h2; rfl
  | [l], xs, G, k, j, h1, h2 => by
    rw [linesRd] at h1
    split at h1
    · next h0 => cases h1; cases h2; rw [h0, Lib.join_one]; rfl
    · cases h1
  | l :: m :: t, xs, G, k, j, h1, h2 => by
    rw [linesRd] at h1
    cases hl : readL l with
    | none => rw [hl] at h1; cases h1
    | some x =>
      rw [hl] at h1
      simp only at h1
      cases hr : linesRd (k + 1) (m :: t) with
      | error e => rw [hr] at h1; cases h1
      | ok ys =>
        rw [hr] at h1
        cases h1
        rw [resolveAll] at h2
        cases hx : resolve1 F0 x with
        | none => rw [hx] at h2; cases h2
        | some r =>
          rw [hx] at h2
          simp only at h2
          cases hy : resolveAll F0 (j + 1) ys with
          | error e => rw [hy] at h2; cases h2
          | ok G' =>
            rw [hy] at h2
            cases h2
            have ih := lines_back H hr hy
            rw [List.map_cons, List.flatten_cons, ih, Lib.join_cons l (m :: t) [10], joinTail_cons, ← Lib.join_cons m t [10]]
            obtain ⟨x1, x2⟩ := x
            unfold resolve1 at hx
            simp only at hx
            cases hp : places F0 x2 with
            | none => rw [hp] at hx; cases hx
            | some ns =>
              rw [hp] at hx
              cases hx
              have hw := (lineWs_read (F := F) (ws := spl 32 l) hl (places_names H hp)).1
              unfold lineB
              rw [hw, join_spl]
              simp
theorem resolveAll_names {F0 : List Rl} : ∀ {xs : List (Rl × List (List UInt8))} {G : List Rl} {j : Int}, resolveAll F0 j xs = .ok G → G.map (·.name) = (xs.map (·.1)).map (·.name)
  | [], G, j, h => by cases h; rfl
  | x :: l, G, j, h => by
    rw [resolveAll] at h
    cases hx : resolve1 F0 x with
    | none => rw [hx] at h; cases h
    | some r =>
      rw [hx] at h
      simp only at h
      cases hy : resolveAll F0 (j + 1) l with
      | error e => rw [hy] at h; cases h
      | ok G' =>
        rw [hy] at h
        cases h
        rw [List.map_cons, List.map_cons, List.map_cons, resolveAll_names hy]
        congr 1
        unfold resolve1 at hx
        cases hp : places F0 x.2 with
        | none => rw [hp] at hx; cases hx
        | some ns => rw [hp] at hx; cases hx; rfl
theorem text_parse {s : List UInt8} {F : List Rl} (h : parseF s = (F, 0, 0)) (hne : F ≠ [] ∨ True) : textF F = s ∧ faultF F = (0, 0) := by
  unfold parseF at h
  split at h
  · cases h
  · cases h1 : linesRd 0 (spl 10 s) with
    | error k => rw [h1] at h; cases h
    | ok xs =>
      rw [h1] at h
      simp only at h
      cases h2 : resolveAll (xs.map (·.1)) 0 xs with
      | error k => rw [h2] at h; cases h
      | ok G =>
        rw [h2] at h
        simp only at h
        split at h
        · next hf =>
          simp only [Prod.mk.injEq] at h
          exact absurd h.2 hf
        · next hf =>
          cases h
          have hnames := resolveAll_names h2
          refine ⟨?_, Classical.byContradiction hf⟩
          have hb := lines_back (F0 := xs.map (·.1)) (F := F) (fun t ht => by
            obtain ⟨r, hr, hn⟩ := findR_spec ht
            have h3 : ((xs.map (·.1)).map (·.name))[(findR (xs.map (·.1)) t).toNat]? = some r.name := by rw [List.getElem?_map, hr]; rfl
            rw [← hnames, List.getElem?_map] at h3
            cases hF : F[(findR (xs.map (·.1)) t).toNat]? with
            | none => rw [hF] at h3; cases h3
            | some q =>
              rw [hF] at h3
              rw [nmAt_eq hF, ← hn]
              simpa using h3) h1 h2
          rw [join_spl] at hb
          exact hb
end
end Go.Proofs.YtgdiadednlajgaaGreatDoor
