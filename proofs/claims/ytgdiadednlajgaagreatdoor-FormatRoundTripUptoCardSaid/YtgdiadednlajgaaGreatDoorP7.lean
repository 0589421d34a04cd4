import Derived.Test.YtgdiadednlajgaaGreatDoorP6
import Derived.Still
namespace Go.Proofs.YtgdiadednlajgaaGreatDoor
open Go.RowKit
set_option linter.unusedVariables false
set_option linter.unusedSimpArgs false
def Stb (D : World → Prop) : Prop := ∀ w w', D w → Below w.heap.size w w' → D w'
section
variable {P : Program} {ops : Array Oper} {C0 : World → Prop} {T : List Nat} {Q : Exit → Act → World → Prop}
def stepW (P : Program) (ops : Array Oper) (C0 : World → Prop) (T : List Nat) (i : Nat) (a : Act) (D : World → Prop) (K : Act → (World → Prop) → Prop) : Prop :=
  match ops[i]? with
  | none => K a D
  | some o => (Region.wanted o (yielded ops a.tmps) = false ∧ K (a.put o.dst undef) D) ∨ (Region.wanted o (yielded ops a.tmps) = true ∧
      ∃ (ι : Type) (V : ι → Value) (G : ι → World → Prop), (∀ w, D w → loudUpon P (fun v w' => ∃ i, v = V i ∧ G i w') ((execOp a.eval o).run P w)) ∧ (∀ x, Stb (G x) ∧ (i ∈ T ∨ ∀ w, G x w → C0 w)) ∧ ∀ x, K (a.put o.dst (V x)) (G x))
def anyW (P : Program) (ops : Array Oper) (C0 : World → Prop) (T : List Nat) (Q : Exit → Act → World → Prop) : Nat → Array Bool → Act → (World → Prop) → Prop
  | 0, listed, a, D => Region.ready .any ops listed = [] ∧ ∀ w, D w → Q .normal a w
  | f + 1, listed, a, D => (Region.ready .any ops listed = [] → ∀ w, D w → Q .normal a w) ∧ ∀ i ∈ Region.ready .any ops listed, stepW P ops C0 T i a D (anyW P ops C0 T Q f (listed.setIfInBounds i true))
theorem anyW_sound : ∀ (f : Nat) (listed : Array Bool) (a : Act) (D : World → Prop), anyW P ops C0 T Q f listed a D → ∀ w, D w → wpAny P .any ops Q f listed a w := by
  intro f
  induction f with
  | zero => intro listed a D h w hw; exact ⟨h.1, h.2 w hw⟩
  | succ f ih =>
    intro listed a D h w hw
    refine ⟨fun h0 => h.1 h0 w hw, fun i hi => ?_⟩
    have hs := h.2 i hi
    unfold stepW at hs
    unfold wpOp
    split
    · rename_i ho; simp only [ho] at hs; exact ih _ _ _ hs w hw
    · rename_i o ho
      simp only [ho] at hs
      rcases hs with ⟨hwt, hk⟩ | ⟨hwt, ι, V, G, hr, hG, hk⟩
      · rw [if_neg (by rw [hwt]; decide)]
        exact ih _ _ _ hk w hw
      · rw [if_pos hwt]
        refine .inl (Oper.wp_of_loud (hr w hw) ?_)
        rintro v w' ⟨j, rfl, hj⟩
        exact ih _ _ _ (hk j) w' hj
def QuietAt (P : Program) (ops : Array Oper) (C0 : World → Prop) (o : Oper) (a : Act) (v : Value) : Prop :=
  (Region.wanted o (yielded ops a.tmps) = true ∧ ∀ w, C0 w → staysUpon P w v ((execOp a.eval o).run P w)) ∨ (Region.wanted o (yielded ops a.tmps) = false ∧ v = undef)
theorem QuietAt.step {i : Nat} {o : Oper} {a : Act} {v : Value} {D : World → Prop} {K : Act → (World → Prop) → Prop} (hi : ops[i]? = some o) (h : QuietAt P ops C0 o a v) (hD : Stb D) (hC : ∀ w, D w → C0 w) (hk : K (a.put o.dst v) D) : stepW P ops C0 T i a D K := by
  unfold stepW
  simp only [hi]
  rcases h with ⟨hw, hv⟩ | ⟨hw, rfl⟩
  · refine .inr ⟨hw, Unit, fun _ => v, fun _ => D, fun w hDw => ?_, fun _ => ⟨hD, .inr hC⟩, fun _ => hk⟩
    have h := hv w (hC w hDw)
    generalize (execOp a.eval o).run P w = r at h
    cases r with
    | ok n w' =>
      cases n <;> simp only [staysUpon] at h <;> simp only [loudUpon]
      case value u => obtain ⟨rfl, rfl⟩ := h; exact ⟨(), rfl, hDw⟩
      case skip => obtain ⟨rfl, rfl⟩ := h; exact ⟨(), rfl, hDw⟩
      case enter f args =>
        obtain ⟨rfl, hc⟩ := h
        exact hc.mono fun e w'' ⟨he, hb⟩ => ⟨v, he, (), rfl, hD _ _ hDw hb⟩
    | halt x w' => simp only [staysUpon] at h
  · exact .inl ⟨hw, hk⟩
theorem QuietAt.put {o o' : Oper} {a : Act} {v u : Value} (hs : ∀ cs b, o.op ≠ .select cs b) (h3 : ∀ d, o'.dst = some d → d ∉ o.looksAt ops) (h : QuietAt P ops C0 o a v) : QuietAt P ops C0 o (a.put o'.dst u) v := by
  unfold QuietAt at *
  rw [execOp_put o hs a o'.dst u h3, wanted_put o a o'.dst u h3]
  exact h
def waits (ops : Array Oper) : Nat → Nat → Nat → Bool
  | 0, _, _ => false
  | f + 1, t, k => match ops[t]? with
    | some o => o.after.any fun e => Region.binds .any e && (e.on == k || waits ops f e.on k)
    | none => false
def Clo (ops : Array Oper) (listed : Array Bool) : Prop := listed.size = ops.size ∧ ∀ (j : Nat) (oj : Oper), ops[j]? = some oj → listed.getD j false = true → ∀ e ∈ oj.after, Region.binds .any e = true → listed.getD e.on false = true
theorem Clo.set {listed : Array Bool} {i : Nat} (h : Clo ops listed) (hi : i ∈ Region.ready .any ops listed) : Clo ops (listed.setIfInBounds i true) := by
  obtain ⟨_, oi, hoi, hall⟩ := mem_ready.1 hi
  refine ⟨by rw [Array.size_setIfInBounds]; exact h.1, fun j oj hj hl e he hb => ?_⟩
  by_cases hij : i = j
  · subst hij
    rw [hj] at hoi
    cases hoi
    exact getD_set_true (hall e he hb)
  · rw [getD_set_ne false hij] at hl
    exact getD_set_true (h.2 j oj hj hl e he hb)
theorem Clo.waits {listed : Array Bool} (h : Clo ops listed) : ∀ (f t k : Nat) (o : Oper), ops[t]? = some o → (∀ e ∈ o.after, Region.binds .any e = true → listed.getD e.on false = true) → Go.Proofs.YtgdiadednlajgaaGreatDoor.waits ops f t k = true → listed.getD k false = true := by
  intro f
  induction f with
  | zero => intro t k o _ _ hw; cases hw
  | succ f ih =>
    intro t k o ho hall hw
    unfold Go.Proofs.YtgdiadednlajgaaGreatDoor.waits at hw
    simp only [ho] at hw
    obtain ⟨e, he, hb⟩ := Array.any_eq_true'.1 hw
    simp only [Bool.and_eq_true, Bool.or_eq_true, beq_iff_eq] at hb
    have h1 := hall e he hb.1
    rcases hb.2 with h2 | h2
    · rw [← h2]; exact h1
    · have hlt : e.on < ops.size := by
        rcases Nat.lt_or_ge e.on listed.size with h3 | h3
        · rw [← h.1]; exact h3
        · simp [Array.getElem?_eq_none h3] at h1
      exact ih e.on k _ (Array.getElem?_eq_getElem hlt) (fun e' he' hb' => h.2 e.on _ (Array.getElem?_eq_getElem hlt) h1 e' he' hb') h2
theorem anyW_first {i : Nat} {oi : Oper} {v : Value} (hi : ops[i]? = some oi) (hsel : ∀ (j : Nat) (o : Oper) cs b, ops[j]? = some o → o.op ≠ .select cs b) (hT : ∀ t ∈ T, ∃ f, Go.Proofs.YtgdiadednlajgaaGreatDoor.waits ops f t i = true) :
    ∀ (f : Nat) (listed : Array Bool) (a : Act) (D : World → Prop), Clo ops listed → Stb D → (∀ w, D w → C0 w) →
      (∀ j oj, ops[j]? = some oj → j ≠ i → listed.getD j true = false → (∀ e ∈ oj.after, Region.binds .any e = true → e.on ≠ i) → oi.apart ops oj = true) →
      i ∈ Region.ready .any ops listed → QuietAt P ops C0 oi a v →
      anyW P ops C0 T Q f (listed.setIfInBounds i true) (a.put oi.dst v) D → anyW P ops C0 T Q (f + 1) listed a D := by
  intro f
  induction f with
  | zero =>
    intro listed a D hcl hD hC _ hr hy H
    refine ⟨fun h => (by rw [h] at hr; cases hr), fun j hj => ?_⟩
    by_cases hji : j = i
    · subst hji; exact hy.step hi hD hC H
    · have := ready_mono hj hji
      rw [H.1] at this
      cases this
  | succ f ih =>
    intro listed a D hcl hD hC hfree hr hy H
    refine ⟨fun h => (by rw [h] at hr; cases hr), fun j hj => ?_⟩
    by_cases hji : j = i
    · subst hji; exact hy.step hi hD hC H
    · have h1 := H.2 j (ready_mono hj hji)
      obtain ⟨hjun, oj, hoj, hall⟩ := mem_ready.1 hj
      have hjT : j ∉ T := fun hm => by
        obtain ⟨f', hf'⟩ := hT j hm
        have h1 := hcl.waits f' j i oj hoj hall hf'
        have h0 := (mem_ready.1 hr).1
        rcases Nat.lt_or_ge i listed.size with h' | h'
        · simp [h'] at h0 h1; rw [h0] at h1; cases h1
        · simp [Array.getElem?_eq_none h'] at h1
      have hnot : ∀ e ∈ oj.after, Region.binds .any e = true → e.on ≠ i := fun e he hb heq => by
        have h1 := hall e he hb
        have h0 := (mem_ready.1 hr).1
        rw [heq] at h1
        rcases Nat.lt_or_ge i listed.size with h' | h'
        · simp [h'] at h0 h1; rw [h0] at h1; cases h1
        · simp [Array.getElem?_eq_none h'] at h1
      obtain ⟨a1, a2, a3⟩ := Oper.apart_spec (hfree j oj hoj hji hjun hnot)
      have hfree' : ∀ k ok, ops[k]? = some ok → k ≠ i → (listed.setIfInBounds j true).getD k true = false →
          (∀ e ∈ ok.after, Region.binds .any e = true → e.on ≠ i) → oi.apart ops ok = true := fun k ok hk hki hun hno => by
        refine hfree k ok hk hki ?_ hno
        by_cases hjk : j = k
        · subst hjk; exact hjun
        · rw [getD_set_ne true hjk] at hun; exact hun
      have go : ∀ u (G : World → Prop), Stb G → (∀ w, G w → C0 w) → anyW P ops C0 T Q f ((listed.setIfInBounds i true).setIfInBounds j true) ((a.put oi.dst v).put oj.dst u) G → anyW P ops C0 T Q (f + 1) (listed.setIfInBounds j true) (a.put oj.dst u) G := by
        intro u G hG hGC hk
        refine ih (listed.setIfInBounds j true) (a.put oj.dst u) G (hcl.set hj) hG hGC hfree' (ready_mono hr (Ne.symm hji)) (hy.put (fun cs b => hsel i oi cs b hi) a3) ?_
        rw [Array.setIfInBounds_comm _ _ hji, ← Act.put_comm a v u a2]
        exact hk
      unfold stepW at h1 ⊢
      simp only [hoj] at h1 ⊢
      rw [wanted_put oj a oi.dst v a1, execOp_put oj (fun cs b => hsel j oj cs b hoj) a oi.dst v a1] at h1
      rcases h1 with ⟨hw, hk⟩ | ⟨hw, ι, V, G, hr1, hG, hk⟩
      · exact .inl ⟨hw, go _ _ hD hC hk⟩
      · exact .inr ⟨hw, ι, V, G, hr1, hG, fun x => go _ _ (hG x).1 ((hG x).2.resolve_left hjT) (hk x)⟩
end
def dE (P : Program) (ops : Array Oper) (Q : Exit → Act → World → Prop) (N : Nat) (M : List Nat) (W : World) (O0 : List Atom) (T : List Nat) (f : Nat) (listed : Array Bool) (E : Env) (O : List Atom) : Prop :=
  Clo ops listed → ∀ a, Ag N E a → anyW P ops (Wd M W O0) T Q f listed a (Wd M W O)
def takeB (ops : Array Oper) (T : List Nat) (listed : Array Bool) (k : Nat) : Bool := T.all (fun t => waits ops ops.size t k) && (Region.ready .any ops listed).contains k && Region.free .any ops listed k && Region.noSelect ops
section
variable {P : Program} {ops : Array Oper} {Q : Exit → Act → World → Prop} {N : Nat} {M : List Nat} {W : World} {O0 : List Atom} {T : List Nat} {f : Nat} {listed : Array Bool} {E E' : Env} {O : List Atom} {o : Oper} {d : Nat}
theorem Wd.stb : Stb (Wd M W O) := fun _ _ h hb => h.on hb
def Through (M : List Nat) (W : World) (O0 O : List Atom) : Prop := ∀ w, Wd M W O w → Wd M W O0 w
theorem Through.sel (is : List Nat) (hn : is.Nodup) (h : (is.map fun i => O.getD i Atom.none_) = O0) : Through M W O0 O := fun w hw => h ▸ hw.sel is hn
theorem clo_start (ops : Array Oper) : Clo ops (Array.replicate ops.size false) := ⟨by simp, fun j oj _ hl => by
  rw [Array.getD_eq_getD_getElem?, Array.getElem?_replicate] at hl
  split at hl <;> cases hl⟩
theorem s_drawn (O0 : List Atom) (T : List Nat := []) {id : Nat} {l : List Oper} (hm : P.follows .mixedOrders = true) (h : dE P l.toArray Q N M W O0 T l.length (Array.replicate l.length false) E O) : sE P Q N M W E O (.region id l.toArray true) := fun a w ha hw =>
  wp_region_any hm (by simpa using anyW_sound _ _ _ _ (h (by simpa using clo_start l.toArray) a ha) _ hw.drew)
theorem d_op (k : Nat) (ho : ops[k]? = some o) (hB : takeB ops T listed k = true) (hT : Through M W O0 O) (h1 : oE P ops (Wd M W O0) N E E' o) (h2 : dE P ops Q N M W O0 T f (listed.setIfInBounds k true) E' O) : dE P ops Q N M W O0 T (f + 1) listed E O := fun hcl a ha => by
  unfold takeB at hB
  simp only [Bool.and_eq_true, List.all_eq_true] at hB
  obtain ⟨⟨⟨hTw, hr⟩, hf⟩, hs⟩ := hB
  have hr' : k ∈ Region.ready .any ops listed := by simpa using hr
  have hTT : ∀ t ∈ T, ∃ f, waits ops f t k = true := fun t ht => ⟨_, hTw t ht⟩
  have h := h1 a ha
  split at h
  · rename_i hw
    obtain ⟨v, hv, hE⟩ := h
    exact anyW_first ho (Region.noSelect_spec hs) hTT f listed a _ hcl Wd.stb hT (Region.free_spec ho hf) hr' (.inl ⟨hw, hv⟩) (h2 (hcl.set hr') _ hE)
  · rename_i hw
    exact anyW_first ho (Region.noSelect_spec hs) hTT f listed a _ hcl Wd.stb hT (Region.free_spec ho hf) hr' (.inr ⟨by simpa using hw, rfl⟩) (h2 (hcl.set hr') _ h)
theorem stepW_of {ι : Type} {V : ι → Value} {G : ι → List Atom} {p : ι → Prop} {k : Nat} {a : Act} {K : Act → (World → Prop) → Prop} (ho : ops[k]? = some o) (ha : Ag N E a) (hne : ∃ w, Wd M W O w) (h1 : uE P ops N M W E O o ι V G p) (hT : ∀ i, k ∈ T ∨ Through M W O0 (G i)) (hk : ∀ i, p i → K (a.put o.dst (V i)) (Wd M W (G i))) : stepW P ops (Wd M W O0) T k a (Wd M W O) K := by
  unfold stepW
  simp only [ho]
  obtain ⟨w0, hw0⟩ := hne
  refine .inr ⟨(h1 a w0 ha hw0).1, { i : ι // p i }, fun i => V i.1, fun i => Wd M W (G i.1), fun w hw => ?_, fun i => ⟨Wd.stb, hT i.1⟩, fun i => hk i.1 i.2⟩
  have h := (h1 a w ha hw).2
  generalize (execOp a.eval o).run P w = r at h
  cases r with
  | ok n w' =>
    cases n <;> simp only [loudUpon] at h ⊢
    case value u => obtain ⟨i, h1, h2, h3⟩ := h; exact ⟨⟨i, h2⟩, h1, h3⟩
    case skip => obtain ⟨i, h1, h2, h3⟩ := h; exact ⟨⟨i, h2⟩, h1, h3⟩
    case enter f args => exact h.mono fun e w'' ⟨v, he, i, h1, h2, h3⟩ => ⟨v, he, ⟨i, h2⟩, h1, h3⟩
  | halt x w' => simp only [loudUpon] at h
theorem stepW_no {k : Nat} {a : Act} {D : World → Prop} {K : Act → (World → Prop) → Prop} (hne : ¬ ∃ w, D w) {o : Oper} (ho : ops[k]? = some o) (hw : Region.wanted o (yielded ops a.tmps) = true) {C0 : World → Prop} : stepW P ops C0 T k a D K := by
  unfold stepW
  simp only [ho]
  exact .inr ⟨hw, Empty, fun i => i.elim, fun i => i.elim, fun w h => absurd ⟨w, h⟩ hne, fun i => i.elim, fun i => i.elim⟩
theorem d_loud (k : Nat) {ι : Type} {V : ι → Value} {G : ι → List Atom} {p : ι → Prop} (hB : Region.ready .any ops listed = [k]) (ho : ops[k]? = some o) (hw : wantE ops E o = some true) (h1 : uE P ops N M W E O o ι V G p) (hT : ∀ i, k ∈ T ∨ Through M W O0 (G i)) (hd : o.dst = some d) (hN : d < N) (h : ∀ i, p i → dE P ops Q N M W O0 T f (listed.setIfInBounds k true) ((d, V i) :: E) (G i)) : dE P ops Q N M W O0 T (f + 1) listed E O := fun hcl a ha => by
  refine ⟨fun h0 => absurd (hB.symm.trans h0) (by simp), fun i hi => ?_⟩
  rw [hB] at hi
  rw [List.mem_singleton] at hi
  subst hi
  have hr' : i ∈ Region.ready .any ops listed := by rw [hB]; exact List.mem_singleton.2 rfl
  by_cases hne : ∃ w, Wd M W O w
  · exact stepW_of ho ha hne h1 hT fun x hp => h x hp (hcl.set hr') _ (by rw [hd]; exact ha.put _ hN)
  · exact stepW_no hne ho (ha.want hw)
theorem d_loud0 (k : Nat) {ι : Type} {V : ι → Value} {G : ι → List Atom} {p : ι → Prop} (hB : Region.ready .any ops listed = [k]) (ho : ops[k]? = some o) (hw : wantE ops E o = some true) (h1 : uE P ops N M W E O o ι V G p) (hT : ∀ i, k ∈ T ∨ Through M W O0 (G i)) (hd : o.dst = none) (h : ∀ i, p i → dE P ops Q N M W O0 T f (listed.setIfInBounds k true) E (G i)) : dE P ops Q N M W O0 T (f + 1) listed E O := fun hcl a ha => by
  refine ⟨fun h0 => absurd (hB.symm.trans h0) (by simp), fun i hi => ?_⟩
  rw [hB] at hi
  rw [List.mem_singleton] at hi
  subst hi
  have hr' : i ∈ Region.ready .any ops listed := by rw [hB]; exact List.mem_singleton.2 rfl
  by_cases hne : ∃ w, Wd M W O w
  · exact stepW_of ho ha hne h1 hT fun x hp => h x hp (hcl.set hr') _ (by rw [hd]; exact ha)
  · exact stepW_no hne ho (ha.want hw)
theorem d_two (i j : Nat) (hB : Region.ready .any ops listed = [i, j]) (h1 : Clo ops (listed.setIfInBounds i true) → ∀ a, Ag N E a → stepW P ops (Wd M W O0) T i a (Wd M W O) (anyW P ops (Wd M W O0) T Q f (listed.setIfInBounds i true))) (h2 : Clo ops (listed.setIfInBounds j true) → ∀ a, Ag N E a → stepW P ops (Wd M W O0) T j a (Wd M W O) (anyW P ops (Wd M W O0) T Q f (listed.setIfInBounds j true))) : dE P ops Q N M W O0 T (f + 1) listed E O := fun hcl a ha => by
  refine ⟨fun h0 => absurd (hB.symm.trans h0) (by simp), fun k hk => ?_⟩
  have hcl' := hcl.set hk
  rw [hB] at hk
  simp only [List.mem_cons, List.not_mem_nil, or_false] at hk
  rcases hk with rfl | rfl
  · exact h1 hcl' a ha
  · exact h2 hcl' a ha
theorem d_step {k : Nat} {ι : Type} {V : ι → Value} {G : ι → List Atom} {p : ι → Prop} (ho : ops[k]? = some o) (hw : wantE ops E o = some true) (h1 : uE P ops N M W E O o ι V G p) (hT : ∀ i, k ∈ T ∨ Through M W O0 (G i)) (hd : o.dst = some d) (hN : d < N) (h : ∀ i, p i → dE P ops Q N M W O0 T f (listed.setIfInBounds k true) ((d, V i) :: E) (G i)) : Clo ops (listed.setIfInBounds k true) → ∀ a, Ag N E a → stepW P ops (Wd M W O0) T k a (Wd M W O) (anyW P ops (Wd M W O0) T Q f (listed.setIfInBounds k true)) := fun hcl a ha => by
  by_cases hne : ∃ w, Wd M W O w
  · exact stepW_of ho ha hne h1 hT fun i hp => h i hp hcl _ (by rw [hd]; exact ha.put _ hN)
  · exact stepW_no hne ho (ha.want hw)
theorem d_end (h : xE Q N M W E O .normal) (hB : Region.ready .any ops listed = []) : dE P ops Q N M W O0 T 0 listed E O := fun _ a ha => ⟨hB, fun w hw => h a w ha hw⟩
end
end Go.Proofs.YtgdiadednlajgaaGreatDoor
