/-
  The iterator of value.Walk.
-/
/-
  What value.Find collects, plain; lists of lists of numbers in memory.
-/
/-
  The comparisons of lists of numbers, of lists of lists of numbers, of lists of strings.
-/
import Derived.Test.YtolognhjdmkohaaKValWb
import Derived.Test.YtolognhjdmkohaaJ13
import Derived.Deep.QuietTactic
import Derived.BigQuiet
namespace Go.Proofs.Ytolognhjdmkohaa
open Go.RowKit Go.Shelf
set_option linter.unusedVariables false
set_option linter.unusedSimpArgs false

theorem YieldAt.wide {m : Nat} {P : Program} {l : Nat} {args : Array Value} {W : World} {R : Ending → World → Prop} (h : YieldAt Fence.wide m P l args W R) (m' : Nat) : YieldAt Fence.wide m' P l args W R := by
  obtain ⟨fn, tmps, assign, body, hy, hR⟩ := h
  exact ⟨fn, tmps, assign, body, hy, hR.1, fun c cs _ => hR.2 c cs (room_wide _)⟩
/-- what a walk of a value comes to: nothing at a value that is not valid -/
def walkV (d : Nd) (p : VF) : List (List Int × Nd × VF) := if (valF d p).1 = 0 then walkL [] d p else []
theorem valF_ht {d : Nd} {p : VF} (h : (valF d p).1 = 0) : p.ht ≤ 10 := by
  cases hc : chkF (.cons d p .nil) 0 1 with
  | inl f => obtain ⟨c, i⟩ := f; rw [valF_inl hc] at h; exact absurd h (chkF_code _ _ _ _ _ hc)
  | inr m =>
    have := chk_ht _ _ _ _ hc
    simp only [VF.ht] at this
    omega
/-- the first part of the iterator's promise, at one value of the loop -/
theorem walk_all {l : Nat} {J Jx : List Wk → World → Prop} {M : Nat → TypeId → Prop} {L : List (List Int × Nd × VF)} {B : Nat} (hJ : ∀ s W W', J s W → Below W.heap.size W W' → J s W')
    (hM3 : ∀ k, B ≤ k → ¬ M k 3) (hM26 : ∀ k, B ≤ k → ¬ M k 26)
    (hY : ∀ m pre x W, J pre W → WPre L B pre x W → YieldAt Fence.wide m Try.prog l x.encs W (YEnd J Jx M pre x W)) (d : Nd) (p : VF) : WkC l (fun s W => J s W ∧ B ≤ W.heap.size) Jx M L d p := by
  refine VF.all_each (C := WkC l (fun s W => J s W ∧ B ≤ W.heap.size) Jx M L) (fun d p hall => walk_step (B := B) (fun s W W' h hb => ⟨hJ s W W' h.1 hb, Nat.le_trans h.2 hb.size⟩) (fun s W h => h.2) hM3 hM26 (fun m pre x W h hp => YieldAt.mono (hY m pre x W h.1 hp) ?_) d p hall) d p
  rintro e W' ⟨b, rfl, h1, h2⟩
  exact ⟨b, rfl, fun hb => ⟨⟨(h1 hb).1, Nat.le_trans h.2 (h1 hb).2.1⟩, (h1 hb).2⟩, h2⟩

set_option maxRecDepth 100000 in
theorem walk1_calls {l : Nat} {J Jx : List Wk → World → Prop} {M : Nat → TypeId → Prop} {B : Nat} {d : Nd} {p : VF} (hm : Mod d p) (hJ : ∀ s W W', J s W → Below W.heap.size W W' → J s W')
    (hM3 : ∀ k, B ≤ k → ¬ M k 3) (hM26 : ∀ k, B ≤ k → ¬ M k 26)
    (hY : ∀ m pre x W, J pre W → WPre (walkV d p) B pre x W → YieldAt Fence.wide m Try.prog l x.encs W (YEnd J Jx M pre x W))
    {W : World} {g : Nat} {a b c e' f' : Value} (hbx : Bx W g a b c e' f') (hv : VInS W (Sm M W) (.agg #[a, b, c, e', f']) d p) (hj : J [] W) (hB : B ≤ W.heap.size) :
    Calls Try.prog 59 #[.func (.yield l) #[] #[], .pointer (some ⟨g, 0, none⟩)] W fun e W' => (∃ v, e = .returned v) ∧ ((∃ xs : List Wk, xs.map Wk.ghost = walkV d p ∧ J xs W') ∨ (∃ pre : List Wk, pre.map Wk.ghost <+: walkV d p ∧ Jx pre W')) := by
  have HVI := Lib.hid (hv.vin (fun b hb => hb.lt))
  have HV := Lib.hid hv
  have HM := Lib.hid hm
  have HBX := Lib.hid hbx
  have HWA := Lib.hid (walk_all (L := walkV d p) hJ hM3 hM26 hY d p)
  have HY := Lib.hid hY
  have HJ := Lib.hid hJ
  have HJJ := Lib.hid hj
  obtain ⟨q0, q1, q2, q3, q4⟩ := hbx.cells
  clear hM3 hM26 hY hJ hbx hm hj
  obtain ⟨sb, sn, sp, hq, Ab, nb, cb, An, nn, cn, Ap, cp, rfl, rfl, rfl, hbc, hnc, hpc, hpm, hrb, hrn, hp⟩ := hv
  injection hq with hq
  simp only [Array.mk.injEq, List.cons.injEq, and_true] at hq
  obtain ⟨rfl, rfl, rfl, rfl, rfl⟩ := hq
  clear hrb hrn hp
  go_enter Try.func59, Try.ntmps59
  go_wp2_with fail
  refine (validate_calls HM.out HVI.out).mono ?_
  rintro e w2 ⟨rfl, hb2⟩
  have HB2 := Lib.hid hb2
  obtain ⟨r0, r1, r2, r3, r4⟩ := (HBX.out.on hb2).cells
  clear hb2 q0 q1 q2 q3 q4
  rcases valF_cases d p with ⟨cd, ix, hcd, hvf⟩ | hvf
  · have HE := Lib.hid (show walkV d p = [] by unfold walkV; rw [hvf, if_neg hcd])
    rw [hvf]
    have hc0 : (cd == 0) = false := by simpa using hcd
    have heql := flt_eql cd ix 0 0
    go_wp2_with fail
    go_end0
    exact ⟨⟨_, rfl⟩, .inl ⟨[], by rw [HE.out]; rfl, HJ.out _ _ _ HJJ.out HB2.out⟩⟩
  · have HE := Lib.hid (show walkV d p = walkL [] d p by unfold walkV; rw [hvf, if_pos rfl])
    have hht := valF_ht (d := d) (p := p) (by rw [hvf])
    rw [hvf]
    have heql := flt_eql 0 0 0 0
    have HCA := Lib.hid (HWA.out HM.out.nd HM.out.fp HM.out.pl [] [] w2 _ none 0 0 (HV.out.kp (KpM.below HB2.out)) ⟨rfl, fun h => absurd h (Nat.lt_irrefl _)⟩ (by omega) ⟨HJ.out _ _ _ HJJ.out HB2.out, Nat.le_trans hB HB2.out.size⟩ (by rw [HE.out]; exact List.prefix_refl _))
    go_wp2_with (go_at_call 60; refine HCA.out.mono ?_; rintro e w3 ⟨b3, xs, rfl, h1, h2⟩)
    go_end0
    refine ⟨⟨_, rfl⟩, ?_⟩
    rw [HE.out]
    cases b3
    · exact .inr ⟨xs, (h2 rfl).1, (h2 rfl).2⟩
    · exact .inl ⟨xs, (h1 rfl).1, (h1 rfl).2.1.1⟩
theorem walk_seq {M : Nat → TypeId → Prop} {d : Nd} {p : VF} (hm : Mod d p) {w : World} (hM3 : ∀ k, w.heap.size ≤ k → ¬ M k 3) (hM26 : ∀ k, w.heap.size ≤ k → ¬ M k 26) {g : Nat} {a b c e' f' : Value} (hbx : Bx w g a b c e' f') (hv : VInS w (Sm M w) (.agg #[a, b, c, e', f']) d p) (n : Nat) :
    SeqP Fence.wide n Try.prog 59 #[.pointer (some ⟨g, 0, none⟩)] Wk.encs (WPre (walkV d p) w.heap.size) (KpM M) (fun xs => xs.map Wk.ghost = walkV d p) (fun pre => pre.map Wk.ghost <+: walkV d p) w := by
  intro l J Jx W hW hJ hJx hY h0
  refine callsIn_wide.2 ?_
  rw [show (#[Value.func (.yield l) #[] #[]] ++ #[Value.pointer (some ⟨g, 0, none⟩)] : Array Value) = #[.func (.yield l) #[] #[], .pointer (some ⟨g, 0, none⟩)] by simp]
  refine walk1_calls (l := l) (J := J) (Jx := Jx) (B := w.heap.size) hm (fun s W1 W2 h hb => abides_below hJ h hb) hM3 hM26 ?_ (hbx.on hW) (hv.kp (KpM.below hW)) h0 hW.size
  intro m pre x W1 h1 hp
  refine YieldAt.mono (YieldAt.wide (hY pre x W1 h1 hp) m) ?_
  rintro e W' (⟨rfl, h, hk⟩ | ⟨rfl, h⟩)
  · exact ⟨true, rfl, fun _ => ⟨h, hk⟩, fun h => (by cases h)⟩
  · exact ⟨false, rfl, fun h => (by cases h), fun _ => h⟩
/-- what Walk answers -/
def WalkEnd (w : World) (d : Nd) (p : VF) (e : Ending) (w' : World) : Prop :=
  e = .returned (.func (.func 59) #[] #[.pointer (some ⟨w.heap.size, 0, none⟩)]) ∧ Below w.heap.size w w' ∧
    ∃ a b c e' f', Bx w' w.heap.size a b c e' f' ∧ VInS w' (fun b => w.heap.size < b ∧ b < w'.heap.size) (.agg #[a, b, c, e', f']) d p
set_option maxRecDepth 100000 in
theorem walkW_calls {d : Nd} {p : VF} {w : World} {v : Value} (hm : Mod d p) (hv : VIn w w.heap.size v d p) : Calls Try.prog 33 #[v] w (WalkEnd w d p) := by
  have HV := Lib.hid hv
  have HM := Lib.hid hm
  obtain ⟨sb, sn, sp, rfl, Ab, nb, cb, An, nn, cn, Ap, cp, rfl, rfl, rfl, _⟩ := hv
  clear hm
  go_enter Try.func33, Try.ntmps33
  go_wp2_with fail
  refine (clone_calls HM.out.nd HM.out.fp HM.out.pl (HV.out.on (bel1 _ _))).mono ?_
  rintro e w2 ⟨v2, rfl, hv2, hb2⟩
  have HV2 := Lib.hid hv2
  obtain ⟨sb2, sn2, sp2, rfl, Ab2, nb2, cb2, An2, nn2, cn2, Ap2, cp2, rfl, rfl, rfl, _⟩ := hv2
  have hbx := (Bx.new w (.int .i64 d.k) (.int .i64 d.n) (.slice Ab nb cb) (.slice An nn cn) (.slice Ap p.len cp)).on hb2
  have HBX := Lib.hid hbx
  have HB2 := Lib.hid (belA hb2)
  obtain ⟨q0, q1, q2, q3, q4⟩ := hbx.cells
  have qf := hbx.free
  clear hb2 hbx
  go_wp2_with fail
  go_ret
  refine ⟨rfl, below5 HB2.out (Nat.le_refl _) _ _ _ _ _, _, _, _, _, _, HBX.out.set5 _ _ _ _ _, ?_⟩
  refine HV2.out.keep (fun q hq => cell_set5 q (by have := hq.1; simp only [alloc_size] at this; omega)) (fun b hb => ⟨by have := hb.1; simp only [alloc_size] at this; omega, by simp; exact hb.2⟩)
end Go.Proofs.Ytolognhjdmkohaa
namespace Go.Proofs.Ytolognhjdmkohaa
open Go.RowKit Go.Shelf
set_option linter.unusedVariables false
set_option linter.unusedSimpArgs false

theorem pathV_snoc : ∀ (q : List Int) (D : Nd) (P : VF) (i : Nat) (d : Nd) (p : VF) (k : Nat) (d' : Nd) (p' r : VF), pathV D P q i = .inr (d, p) → p.drop k = .cons d' p' r → k < p.len → pathV D P (q ++ [(k : Int)]) i = .inr (d', p') := by
  intro q
  induction q with
  | nil =>
    intro D P i d p k d' p' r h hd hk
    rw [pathV_nil] at h
    injection h with h
    injection h with e1 e2
    subst e1 e2
    rw [List.nil_append, pathV_go hk hd, pathV_nil]
  | cons a q ih =>
    intro D P i d p k d' p' r h hd hk
    by_cases ha : a < 0 ∨ (P.len : Int) ≤ a
    · rw [pathV_bad ha] at h; cases h
    · obtain ⟨j, rfl⟩ := Int.eq_ofNat_of_zero_le (show 0 ≤ a by omega)
      have hj : j < P.len := by omega
      obtain ⟨d2, p2, hdr⟩ := VF.drop_cons hj
      rw [pathV_go hj hdr] at h
      rw [List.cons_append, pathV_go hj hdr]
      exact ih d2 p2 (i + 1) d p k d' p' r h hd hk
theorem pathV_ht : ∀ (q : List Int) (D : Nd) (P : VF) (i : Nat) (d : Nd) (p : VF), pathV D P q i = .inr (d, p) → q.length + p.ht ≤ P.ht := by
  intro q
  induction q with
  | nil =>
    intro D P i d p h
    rw [pathV_nil] at h
    injection h with h
    injection h with e1 e2
    subst e1 e2
    simp
  | cons a q ih =>
    intro D P i d p h
    by_cases ha : a < 0 ∨ (P.len : Int) ≤ a
    · rw [pathV_bad ha] at h; cases h
    · obtain ⟨j, rfl⟩ := Int.eq_ofNat_of_zero_le (show 0 ≤ a by omega)
      have hj : j < P.len := by omega
      obtain ⟨d2, p2, hdr⟩ := VF.drop_cons hj
      rw [pathV_go hj hdr] at h
      have := ih d2 p2 (i + 1) d p h
      have := ht_at hdr
      simp only [List.length_cons]
      omega
/-- what is known of a node that a walk comes to below the root -/
def Entry (D : Nd) (P : VF) (g : List Int × Nd × VF) : Prop :=
  pathV D P g.1 0 = .inr (g.2.1, g.2.2) ∧ ∃ (q : List Int) (k : Nat) (d : Nd) (p : VF), g.1 = q ++ [(k : Int)] ∧ pathV D P q 0 = .inr (d, p) ∧ k < p.len ∧ nodeC d p.len = 0
theorem walkF_entry (D : Nd) (P : VF) : ∀ (F : VF) (q : List Int) (d : Nd) (p : VF) (j : Nat), pathV D P q 0 = .inr (d, p) → p.drop j = F → nodeC d p.len = 0 → GoodF F → ∀ g ∈ walkF q F j, Entry D P g := by
  intro F
  induction F with
  | nil => intro q d p j _ _ _ _ g hg; simp [walkF] at hg
  | cons d1 p1 r ih1 ih2 =>
    intro q d p j hq hd hn hG g hg
    have hj : j < p.len := by
      rcases Nat.lt_or_ge j p.len with h | h
      · exact h
      · rw [VF.drop_nil h] at hd; cases hd
    have h1 := pathV_snoc q D P 0 d p j d1 p1 r hq hd hj
    simp only [walkF, List.mem_cons, List.mem_append] at hg
    rcases hg with rfl | hg | hg
    · exact ⟨h1, q, j, d, p, rfl, hq, hj, hn⟩
    · exact ih1 _ d1 p1 0 h1 (VF.drop_zero _) hG.1 hG.2.1 g hg
    · refine ih2 q d p (j + 1) hq ?_ hn hG.2.2 g hg
      obtain ⟨d2, p2, h2⟩ := VF.drop_cons hj
      rw [hd] at h2
      injection h2 with _ _ h2
      exact h2.symm
theorem walkV_entry {D : Nd} {P : VF} {g : List Int × Nd × VF} (hg : g ∈ walkV D P) : g = ([], D, P) ∨ Entry D P g := by
  unfold walkV at hg
  split at hg
  · rename_i hv
    cases hc : chkF (.cons D P .nil) 0 1 with
    | inl f => obtain ⟨c, i⟩ := f; rw [valF_inl hc] at hv; exact absurd hv (chkF_code _ _ _ _ _ hc)
    | inr m =>
      have hG := chkF_good _ _ _ _ hc
      unfold walkL at hg
      rw [List.mem_cons] at hg
      rcases hg with rfl | hg
      · exact .inl rfl
      · exact .inr (walkF_entry D P P [] D P 0 (pathV_nil _ _ _) (VF.drop_zero _) hG.1 hG.2.1 g hg)
  · simp at hg
theorem chk_count : ∀ (F : VF) (num lev m : Nat) (q : List Int) (j : Nat), chkF F num lev = .inr m → m = num + (walkF q F j).length := by
  intro F
  induction F with
  | nil => intro num lev m q j h; injection h with h; simp [walkF, h]
  | cons d p r ih1 ih2 =>
    intro num lev m q j h
    by_cases h1 : 600 ≤ num ∨ 10 < lev
    · rw [chkF_many h1] at h; cases h
    · by_cases h2 : nodeC d p.len ≠ 0
      · rw [chkF_node h1 h2] at h; cases h
      · cases hp : chkF p (num + 1) (lev + 1) with
        | inl f => rw [chkF_inl h1 h2 hp] at h; cases h
        | inr k =>
          rw [chkF_inr h1 h2 hp] at h
          have a := ih1 _ _ _ (q ++ [(j : Int)]) 0 hp
          have b := ih2 _ _ _ q (j + 1) h
          simp only [walkF, List.length_cons, List.length_append]
          omega
theorem walkV_len (d : Nd) (p : VF) : (walkV d p).length ≤ 600 := by
  unfold walkV
  split
  · rename_i hv
    cases hc : chkF (.cons d p .nil) 0 1 with
    | inl f => obtain ⟨c, i⟩ := f; rw [valF_inl hc] at hv; exact absurd hv (chkF_code _ _ _ _ _ hc)
    | inr m =>
      have h1 := chk_count _ _ _ _ [] 0 hc
      have h2 := (chkF_next _ _ _ _ hc).2 (by omega)
      have : (walkL [] d p).length ≤ (walkF [] (.cons d p .nil) 0).length := by
        have e : ∀ (q q' : List Int), (walkF q p 0).length = (walkF q' p 0).length := fun q q' => by
          cases hp : chkF p 1 2 with
          | inl f =>
            rw [chkF] at hc
            split at hc
            · cases hc
            · split at hc
              · cases hc
              · simp only [Nat.zero_add, Nat.reduceAdd] at hc; rw [hp] at hc; cases hc
          | inr k =>
            have a := chk_count _ _ _ _ q 0 hp
            have b := chk_count _ _ _ _ q' 0 hp
            omega
        simp only [walkL, walkF, List.length_cons, List.length_append, List.append_nil]
        rw [e [] ([] ++ [((0 : Nat) : Int)])]
        omega
      omega
  · simp
/-- is the last step of a path one to a part with the name? -/
def hitB (d : Nd) (p : VF) (name : List UInt8) (path : List Int) : Bool :=
  match path.getLast? with
  | none => false
  | some k => match pathV d p path.dropLast 0 with
    | .inr (d', _) => d'.k == 4 && d'.ns[k.toNat]? == some name
    | .inl _ => false
theorem hitB_nil (d : Nd) (p : VF) (name : List UInt8) : hitB d p name [] = false := rfl
theorem hitB_snoc {d d' : Nd} {p p' : VF} {name : List UInt8} {q : List Int} {k : Nat} (h : pathV d p q 0 = .inr (d', p')) : hitB d p name (q ++ [(k : Int)]) = (d'.k == 4 && d'.ns[k]? == some name) := by
  unfold hitB
  simp [h]
/-- the paths that Find collects -/
def selP (d : Nd) (p : VF) (name : List UInt8) (l : List (List Int × Nd × VF)) : List (List Int) := (l.map (·.1)).filter (hitB d p name)
def findV (d : Nd) (p : VF) (name : List UInt8) : List (List Int) := selP d p name (walkV d p)
theorem selP_snoc (d : Nd) (p : VF) (name : List UInt8) (l : List (List Int × Nd × VF)) (g : List Int × Nd × VF) : selP d p name (l ++ [g]) = selP d p name l ++ (if hitB d p name g.1 = true then [g.1] else []) := by
  unfold selP
  simp [List.filter_cons]
theorem selP_len (d : Nd) (p : VF) (name : List UInt8) (l : List (List Int × Nd × VF)) : (selP d p name l).length ≤ l.length := by
  unfold selP
  have := List.length_filter_le (hitB d p name) (l.map (·.1))
  simpa using this
theorem node_names {d : Nd} {np : Nat} (h : nodeC d np = 0) (hk : d.k = 4) : d.ns.length = np := by
  unfold nodeC at h
  split at h
  · omega
  · split at h
    · omega
    · rename_i hf
      simp only [formB, Bool.or_eq_true, decide_eq_true_eq, not_or, not_and, Nat.not_lt] at hf
      by_cases e : d.ns.length = np
      · exact e
      · have := hf.2 hk; first | exact this | exact absurd e this

/-- a list of lists of numbers that the call owns -/
def OwnI (w : World) (B : Nat) (A : Option Addr) (c : Nat) (l : List (List Int)) : Prop :=
  ∃ vs, w.ownsRow B 46 1 (.slice A l.length c) l.length vs ∧ vs.length = l.length ∧ ∀ (j : Nat) (b : List Int), l[j]? = some b → ∃ A' c', vs[j]? = some (.slice A' b.length c') ∧ w.ownsRow B 3 1 (.slice A' b.length c') b.length (iv b)
theorem OwnI.nil (w : World) (B : Nat) : OwnI w B none 0 [] := ⟨[], World.ownsRow_nil _ _ _ _, rfl, fun j b h => by simp at h⟩
/-- what is owned stays owned where its cells are as they were -/
theorem own_kp {M : Nat → TypeId → Prop} {w w' : World} {base e s n : Nat} {v : Value} {xs : List Value} (h : w.ownsRow base e s v n xs) (k : KpM M w w') (hm : ∀ b, base ≤ b → ¬ M b e) : w'.ownsRow base e s v n xs := by
  refine ⟨h.1, ?_⟩
  rcases h.2 with hn | ⟨g, cap, cur, hv, hg, hh, r⟩
  · exact .inl hn
  · exact .inr ⟨g, cap, cur, hv, hg, k.2 g _ _ _ hh (hm g hg), r⟩
theorem OwnI.kp {M : Nat → TypeId → Prop} {w w' : World} {B : Nat} {A : Option Addr} {c : Nat} {l : List (List Int)} (h : OwnI w B A c l) (k : KpM M w w') (hm : ∀ b t, B ≤ b → ¬ M b t) : OwnI w' B A c l := by
  obtain ⟨vs, h1, h2, h3⟩ := h
  refine ⟨vs, own_kp h1 k (fun b hb => hm b _ hb), h2, fun j b hj => ?_⟩
  obtain ⟨A', c', e, ho⟩ := h3 j b hj
  exact ⟨A', c', e, own_kp ho k (fun b hb => hm b _ hb)⟩
theorem OwnI.set {w : World} {B g o : Nat} {A : Option Addr} {c : Nat} {l : List (List Int)} {x : Value} (h : OwnI w B A c l) (hg : g < B) : OwnI (w.setCell ⟨g, o, none⟩ x) B A c l := by
  obtain ⟨vs, h1, h2, h3⟩ := h
  refine ⟨vs, own_set h1 hg, h2, fun j b hj => ?_⟩
  obtain ⟨A', c', e, ho⟩ := h3 j b hj
  exact ⟨A', c', e, own_set ho hg⟩
theorem OwnI.mono {w : World} {B B' : Nat} {A : Option Addr} {c : Nat} {l : List (List Int)} (h : OwnI w B A c l) (hg : B' ≤ B) : OwnI w B' A c l := by
  obtain ⟨vs, h1, h2, h3⟩ := h
  refine ⟨vs, own_mono h1 hg, h2, fun j b hj => ?_⟩
  obtain ⟨A', c', e, ho⟩ := h3 j b hj
  exact ⟨A', c', e, own_mono ho hg⟩
/-- no cells have changed -/
abbrev Kp0 : World → World → Prop := KpM (fun _ _ => False)
theorem kp0_grown {W W' : World} {row : Option Nat} (hg : W.grownBy W' row) (hr : ∀ r, row = some r → ∃ o : Obj, W.heap[r]? = some o ∧ o.isCells = false) : Kp0 W W' := by
  refine ⟨hg.size, fun k cs t fr hk _ => ?_⟩
  refine (hg.block k (Array.getElem?_eq_some_iff.1 hk).1 (fun e => ?_)).trans hk
  obtain ⟨o, ho, hc⟩ := hr k e.symm
  rw [hk] at ho
  cases ho
  cases hc
theorem KpM.of0 {M : Nat → TypeId → Prop} {W W' : World} (h : Kp0 W W') : KpM M W W' := ⟨h.1, fun k cs t fr hk _ => h.2 k cs t fr hk id⟩
theorem OwnI.kp0 {w w' : World} {B : Nat} {A : Option Addr} {c : Nat} {l : List (List Int)} (h : OwnI w B A c l) (k : Kp0 w w') : OwnI w' B A c l := h.kp k (fun _ _ _ h => h)
/-- a variable of one cell -/
def One (w : World) (g : Nat) (t : TypeId) (v : Value) : Prop := w.heap[g]? = some (.cells #[v] t (0, 0))
theorem One.new (w : World) (t : TypeId) (v : Value) : One (w.alloc (.cells #[v] t)) w.heap.size t v := heap_alloc_new w _
theorem One.lt {w : World} {g : Nat} {t : TypeId} {v : Value} (h : One w g t v) : g < w.heap.size := (Array.getElem?_eq_some_iff.1 h).1
theorem One.on {w w' : World} {g : Nat} {t : TypeId} {v : Value} (h : One w g t v) (hb : Below w.heap.size w w') : One w' g t v := (hb.block g h.lt).trans h
theorem One.kp {M : Nat → TypeId → Prop} {w w' : World} {g : Nat} {t : TypeId} {v : Value} (h : One w g t v) (k : KpM M w w') (hm : ¬ M g t) : One w' g t v := k.2 g _ _ _ h hm
theorem One.cell {w : World} {g : Nat} {t : TypeId} {v : Value} (h : One w g t v) : w.cell? ⟨g, 0, none⟩ = some v := by rw [cell_of_row w g _ _ _ _ h]; rfl
theorem One.free {w : World} {g : Nat} {t : TypeId} {v : Value} (h : One w g t v) (o : Nat) : w.frozen? ⟨g, o, none⟩ = false := by
  unfold World.frozen?
  simp [One] at h
  simp [h]
theorem One.set {w : World} {g : Nat} {t : TypeId} {v : Value} (h : One w g t v) (x : Value) : One (w.setCell ⟨g, 0, none⟩ x) g t x := by
  unfold One at h ⊢
  simp only [World.setCell, Array.getElem?_modify, h]
  simp
theorem sm_of_cell {w : World} {q : Addr} {v : Value} (h : w.cell? q = some v) : Sm (fun _ _ => False) w q.block := by
  unfold World.cell? at h
  cases e : w.heap[q.block]? with
  | none => rw [e] at h; cases h
  | some o =>
    rw [e] at h
    cases o with
    | cells cs t fr => exact ⟨cs, t, fr, e, id⟩
    | _ => cases h
theorem Rd.sm {w : World} {B n : Nat} {A : Option Addr} {xs : List Value} (h : Rd w B 1 A n xs) : RdS w (Sm (fun _ _ => False) w) A n xs := by
  refine ⟨by have := h.1; omega, fun hn => ?_⟩
  obtain ⟨b, o, rfl, hb, hc⟩ := h.2 hn
  refine ⟨b, o, rfl, ?_, hc⟩
  have hl : 0 < xs.length := by have := h.1; omega
  exact sm_of_cell (hc 0 _ (List.getElem?_eq_getElem hl))
theorem Hd.sm {w : World} {B : Nat} {d : Nd} {np : Nat} {Q Q' : Nat → Nat → Prop} {sb sn sp : Value} (h : Hd w B d np Q sb sn sp) (hQ : ∀ b o, Q b o → 0 < np → Sm (fun _ _ => False) w b ∧ Q' b o) : HdS w (Sm (fun _ _ => False) w) d np Q' sb sn sp := by
  obtain ⟨Ab, nb, cb, An, nn, cn, Ap, cp, h1, h2, h3, h4, h5, h6, h6', h7, h8, h9⟩ := h
  refine ⟨Ab, nb, cb, An, nn, cn, Ap, cp, h1, h2, h3, h4, h5, h6, h6', h7.sm, h8.sm, fun h0 => ?_⟩
  obtain ⟨b, o, e, hb, hq⟩ := h9 h0
  obtain ⟨hs, hq⟩ := hQ b o hq h0
  exact ⟨b, o, e, hs, hq⟩
theorem FIn.sm {w : World} {B : Nat} : ∀ (F : VF) (b o : Nat), FIn w B F b o → (0 < F.len → Sm (fun _ _ => False) w b) ∧ FInS w (Sm (fun _ _ => False) w) F b o := by
  intro F
  induction F with
  | nil => intro b o _; exact ⟨fun h => absurd h (Nat.lt_irrefl _), trivial⟩
  | cons d p r ih1 ih2 =>
    rintro b o ⟨⟨sb, sn, sp, hc, hd⟩, hr⟩
    exact ⟨fun _ => sm_of_cell hc.1, ⟨sb, sn, sp, hc, hd.sm fun b o hq h0 => ⟨(ih1 b o hq).1 h0, (ih1 b o hq).2⟩⟩, (ih2 b _ hr).2⟩
theorem VIn.sm {w : World} {B : Nat} {v : Value} {d : Nd} {p : VF} (h : VIn w B v d p) : VInS w (Sm (fun _ _ => False) w) v d p := by
  obtain ⟨sb, sn, sp, e, h⟩ := h
  exact ⟨sb, sn, sp, e, h.sm fun b o hq h0 => ⟨(FIn.sm p b o hq).1 h0, (FIn.sm p b o hq).2⟩⟩
theorem VIn.kp0 {W W' : World} {v : Value} {d : Nd} {p : VF} {B : Nat} (h : VIn W B v d p) (k : Kp0 W W') : VIn W' W'.heap.size v d p := (h.sm.kp k).vin (fun b hb => hb.lt)
theorem wpre_own (L : List (List Int × Nd × VF)) (B B' : Nat) (pre : List Wk) (x : Wk) : OwnFrom B' (fun (_ : Unit) W => WPre L B pre x W) := fun s W W' row h hg hr => by
  have k := kp0_grown hg (fun r e => (hr r e).2)
  exact ⟨own_kp h.1 k (fun _ _ h => h), h.2.1.kp0 k, h.2.2⟩
/-- the same, beside the blocks that are known -/
theorem RdS.sm {w : World} {S : Nat → Prop} {n : Nat} {A : Option Addr} {xs : List Value} (h : RdS w S A n xs) : RdS w (fun b => S b ∧ Sm (fun _ _ => False) w b) A n xs := by
  refine ⟨h.1, fun hn => ?_⟩
  obtain ⟨b, o, rfl, hb, hc⟩ := h.2 hn
  have hl : 0 < xs.length := by have := h.1; omega
  exact ⟨b, o, rfl, ⟨hb, sm_of_cell (hc 0 _ (List.getElem?_eq_getElem hl))⟩, hc⟩
theorem HdS.sm {w : World} {S : Nat → Prop} {d : Nd} {np : Nat} {Q Q' : Nat → Nat → Prop} {sb sn sp : Value} (h : HdS w S d np Q sb sn sp) (hQ : ∀ b o, Q b o → 0 < np → Sm (fun _ _ => False) w b ∧ Q' b o) : HdS w (fun b => S b ∧ Sm (fun _ _ => False) w b) d np Q' sb sn sp := by
  obtain ⟨Ab, nb, cb, An, nn, cn, Ap, cp, h1, h2, h3, h4, h5, h6, h6', h7, h8, h9⟩ := h
  refine ⟨Ab, nb, cb, An, nn, cn, Ap, cp, h1, h2, h3, h4, h5, h6, h6', h7.sm, h8.sm, fun h0 => ?_⟩
  obtain ⟨b, o, e, hb, hq⟩ := h9 h0
  obtain ⟨hs, hq⟩ := hQ b o hq h0
  exact ⟨b, o, e, ⟨hb, hs⟩, hq⟩
theorem FInS.sm {w : World} {S : Nat → Prop} : ∀ (F : VF) (b o : Nat), FInS w S F b o → (0 < F.len → Sm (fun _ _ => False) w b) ∧ FInS w (fun b => S b ∧ Sm (fun _ _ => False) w b) F b o := by
  intro F
  induction F with
  | nil => intro b o _; exact ⟨fun h => absurd h (Nat.lt_irrefl _), trivial⟩
  | cons d p r ih1 ih2 =>
    rintro b o ⟨⟨sb, sn, sp, hc, hd⟩, hr⟩
    exact ⟨fun _ => sm_of_cell hc.1, ⟨sb, sn, sp, hc, hd.sm fun b o hq h0 => ⟨(ih1 b o hq).1 h0, (ih1 b o hq).2⟩⟩, (ih2 b _ hr).2⟩
theorem VInS.sm {w : World} {S : Nat → Prop} {v : Value} {d : Nd} {p : VF} (h : VInS w S v d p) : VInS w (fun b => S b ∧ Sm (fun _ _ => False) w b) v d p := by
  obtain ⟨sb, sn, sp, e, h⟩ := h
  exact ⟨sb, sn, sp, e, h.sm fun b o hq h0 => ⟨(FInS.sm p b o hq).1 h0, (FInS.sm p b o hq).2⟩⟩
theorem VInS.ofM {M : Nat → TypeId → Prop} {w : World} {S : Nat → Prop} {v : Value} {d : Nd} {p : VF} (h : VInS w S v d p) (hM : ∀ b t, S b → ¬ M b t) : VInS w (Sm M w) v d p :=
  h.sm.keep (fun _ _ => rfl) (fun b hb => by obtain ⟨h1, cs, t, fr, h2, _⟩ := hb; exact ⟨cs, t, fr, h2, hM b t h1⟩)
theorem postM_ret {F : Fence} {n : Nat} {P : Program} {fn : Func} {R : Ending → World → Prop} {a : Act} {w : World} {v : Value} (hr : (results fn a.tmps).run P w = .ok v w) (hd : a.defers = []) (hR : R (.returned v) w) : bodyPostM F n P fn R .ret a w := by
  show LeavesInM F n P fn a.tmps R a.defers .returning w
  rw [hd]
  exact ⟨v, hr, hR⟩
theorem postM_mark {F : Fence} {n : Nat} {P : Program} {fn : Func} {R : Ending → World → Prop} {a : Act} {w : World} {v : Value} {D : Nat} (hd : a.defers = [{ target := .collected D, args := #[] }]) (hK : w.heap[D]? = some (.deferred (some [])))
    (hr : (results fn a.tmps).run P (w.putObj D (.deferred none)) = .ok v (w.putObj D (.deferred none))) (hR : R (.returned v) (w.putObj D (.deferred none))) : bodyPostM F n P fn R .ret a w := by
  show LeavesInM F n P fn a.tmps R a.defers .returning w
  rw [hd]
  exact ⟨by simp, .inl ⟨_, _, rfl, run_takeDeferred hK, v, hr, hR⟩⟩
theorem putObj_other {W : World} {D : Nat} {o o' : Obj} (hK : W.heap[D]? = some o) (ho : o.isCells = false) : Kp0 W (W.putObj D o') := KpM.putObj W D o o' hK ho
theorem below_obj {B : Nat} {w W : World} {D : Nat} {o : Obj} (h : Below B w W) (hw : B ≤ w.heap.size) (hD : B ≤ D) : Below B w (W.putObj D o) := h.grown (grownBy_putObj' W D o) (Nat.le_trans hw h.size) (fun k e => by cases e; exact hD)
end Go.Proofs.Ytolognhjdmkohaa
namespace Go.Proofs.Ytolognhjdmkohaa
open Go.RowKit
set_option linter.unusedVariables false
set_option linter.unusedSimpArgs false

def CmpRel (w : World) (xs ys : List Int) (k : Value) (wr : World) : Prop := ∃ i nq : Nat, k = .int .i64 (i : Int) ∧ i ≤ xs.length ∧ xs.take i = ys.take i ∧ wr = w.drewN nq
theorem take_eq_succ {α : Type} {xs ys : List α} {i : Nat} {x y : α} (h : xs.take i = ys.take i) (hx : xs[i]? = some x) (hy : ys[i]? = some y) (e : x = y) : xs.take (i + 1) = ys.take (i + 1) := by
  obtain ⟨h1, rfl⟩ := List.getElem?_eq_some_iff.1 hx
  obtain ⟨h2, rfl⟩ := List.getElem?_eq_some_iff.1 hy
  rw [List.take_succ_eq_append_getElem h1, List.take_succ_eq_append_getElem h2, h, e]
theorem ne_of_at {α : Type} {xs ys : List α} {i : Nat} {x y : α} (hx : xs[i]? = some x) (hy : ys[i]? = some y) (e : x ≠ y) : xs ≠ ys := by
  rintro rfl
  rw [hx] at hy
  injection hy with hy
  exact e hy
/-- an answer, nothing but draws -/
def Quiet (w : World) (v : Value) (e : Ending) (w' : World) : Prop := e = .returned v ∧ ∃ n, w' = w.drewN n
theorem below_drewN' (B : Nat) (w : World) (n : Nat) : Below B w (w.drewN n) := ⟨rfl, rfl, rfl, Nat.le_refl _, fun _ _ => rfl⟩

set_option maxRecDepth 100000 in
set_option maxHeartbeats 400000 in
theorem ints_calls {w : World} {B B' : Nat} {A A' : Option Addr} {n n' c c' : Nat} {xs ys : List Int} (ha : Rd w B 1 A n (iv xs)) (hb : Rd w B' 1 A' n' (iv ys)) (hm : n ≤ 140737488355328) :
    Calls Try.prog 34 #[.slice A n c, .slice A' n' c'] w (Quiet w (.bool (xs == ys))) := by
  have hl : xs.length = n := by have := ha.len; rw [iv_len] at this; exact this
  have hl' : ys.length = n' := by have := hb.len; rw [iv_len] at this; exact this
  have HA := Lib.hid ha
  have HB := Lib.hid hb
  have HL := Lib.hid hl
  have HL' := Lib.hid hl'
  clear ha hb hl hl'
  by_cases hnn : n = n'
  · have hd : ((n : Int) != (n' : Int)) = false := by simp [hnn]
    have HNN := Lib.hid hnn
    clear hnn
    go_enter Try.func34, Try.ntmps34
    go_wp2_with fail
    go_loopw [5] (fun k wr => CmpRel w xs ys k wr) (fun k _ => n - (intOf k).toNat)
    case atStart => exact ⟨0, 0, rfl, Nat.zero_le _, rfl, rfl⟩
    case round =>
      obtain ⟨i, nq, rfl, hi, ht, rfl⟩ := hrel
      rw [HL.out] at hi
      have HT := Lib.hid ht
      clear ht
      by_cases hlt : i < n
      · obtain ⟨b, o, x, rfl, hbB, hxi, hcell⟩ := iv_at HA.out hlt
        obtain ⟨b', o', y, rfl, hbB', hyi, hcell'⟩ := iv_at HB.out (k := i) (by have := HNN.out; omega)
        have HX := Lib.hid hxi
        have HY := Lib.hid hyi
        have hli : (i : Int) < (n : Int) := by omega
        have hli' : (i : Int) < (n' : Int) := by have := HNN.out; omega
        have h0 : (0 : Int) ≤ (i : Int) := by omega
        have hlt' : i < n' := by omega
        clear hxi hyi
        go_upto_region 6 with (fail)
        go_quiet (fail)
        by_cases hxy : x = y
        · have hd2 : (x != y) = false := by simp [hxy]
          have HXY := Lib.hid hxy
          clear hxy
          go_wp2_with fail
          go_roundw
          case rel => exact ⟨i + 1, _, by go_num, by rw [HL.out]; omega, take_eq_succ HT.out HX.out HY.out HXY.out, rfl⟩
          case measure => simp [intOf]; omega
        · have hd2 : (x != y) = true := by simp [hxy]
          have HXY := Lib.hid hxy
          clear hxy
          go_wp2_with fail
          go_ret
          rw [show (xs == ys) = false by simp; exact ne_of_at HX.out HY.out HXY.out]
          exact ⟨rfl, _, World.drewN_drewN _ _ _⟩
      · go_wp2_with fail
        go_ret
        rw [show (xs == ys) = true by
          simp
          have := HT.out
          rw [List.take_of_length_le (by rw [HL.out]; omega), List.take_of_length_le (by rw [HL'.out]; have := HNN.out; omega)] at this
          exact this]
        exact ⟨rfl, _, rfl⟩
  · have hd : ((n : Int) != (n' : Int)) = true := by simp; omega
    have HNN := Lib.hid (show (xs == ys) = false by simp; rintro rfl; exact hnn (by rw [← HL.out, HL'.out]))
    clear hnn
    go_enter Try.func34, Try.ntmps34
    go_wp2_with fail
    go_ret
    rw [HNN.out]
    exact ⟨rfl, 0, rfl⟩

/-- a list of lists of numbers, read -/
def Lss (w : World) (B : Nat) (A : Option Addr) (n : Nat) (l : List (List Int)) : Prop :=
  ∃ vs, Rd w B 1 A n vs ∧ vs.length = l.length ∧ ∀ (j : Nat) (b : List Int), l[j]? = some b → ∃ A' n' c', vs[j]? = some (.slice A' n' c') ∧ Rd w B 1 A' n' (iv b) ∧ n' ≤ 140737488355328
theorem Lss.len {w : World} {B n : Nat} {A : Option Addr} {l : List (List Int)} (h : Lss w B A n l) : l.length = n := by
  obtain ⟨vs, hr, he, _⟩ := h
  rw [← he]; exact hr.len
theorem Lss.at_ {w : World} {B n k : Nat} {A : Option Addr} {l : List (List Int)} (h : Lss w B A n l) (hk : k < n) :
    ∃ b o x A' n' c', A = some ⟨b, o, none⟩ ∧ b < B ∧ l[k]? = some x ∧ w.cell? ⟨b, o + k, none⟩ = some (.slice A' n' c') ∧ Rd w B 1 A' n' (iv x) ∧ n' ≤ 140737488355328 := by
  have hl := h.len
  obtain ⟨vs, hr, he, hv⟩ := h
  obtain ⟨b, o, u, rfl, hb, hu, hc⟩ := hr.at_ hk
  have hx : l[k]? = some l[k] := List.getElem?_eq_getElem (by omega)
  obtain ⟨A', n', c', e, hrd, hn⟩ := hv k _ hx
  rw [hu] at e
  injection e with e
  subst e
  exact ⟨b, o, l[k], A', n', c', rfl, hb, hx, hc, hrd, hn⟩
theorem OwnI.lss {w : World} {B : Nat} {A : Option Addr} {c : Nat} {l : List (List Int)} (h : OwnI w B A c l) (hl : ∀ x ∈ l, x.length ≤ 140737488355328) : Lss w w.heap.size A l.length l := by
  obtain ⟨vs, h1, h2, h3⟩ := h
  refine ⟨vs, Rd.of_own h1, h2, fun j b hj => ?_⟩
  obtain ⟨A', c', e, ho⟩ := h3 j b hj
  exact ⟨A', b.length, c', e, Rd.of_own ho, hl b (List.mem_of_getElem? hj)⟩
theorem quiet_ai {P : Program} {f : FuncId} {args : Array Value} {w : World} {a n : Nat} {v : Value} (h : Calls P f args (w.drewN (a + n)) (Quiet (w.drewN (a + n)) v)) : Calls P f args (w.drewN (a + n)) fun e w'' => e = .returned v ∧ ∃ m, w'' = w.drewN (a + m) :=
  h.mono fun _ _ ⟨he, m, hm⟩ => ⟨he, n + m, by rw [hm, World.drewN_drewN, Nat.add_assoc]⟩
def CmpRelL (w : World) (xs ys : List (List Int)) (k : Value) (wr : World) : Prop := ∃ i nq : Nat, k = .int .i64 (i : Int) ∧ i ≤ xs.length ∧ xs.take i = ys.take i ∧ wr = w.drewN nq

set_option maxRecDepth 100000 in
set_option maxHeartbeats 400000 in
theorem lists_calls {w : World} {B B' : Nat} {A A' : Option Addr} {n n' c c' : Nat} {xs ys : List (List Int)} (ha : Lss w B A n xs) (hb : Lss w B' A' n' ys) (hm : n ≤ 140737488355328) :
    Calls Try.prog 30 #[.slice A n c, .slice A' n' c'] w (Quiet w (.bool (xs == ys))) := by
  have hl : xs.length = n := ha.len
  have hl' : ys.length = n' := hb.len
  have HA := Lib.hid ha
  have HB := Lib.hid hb
  have HL := Lib.hid hl
  have HL' := Lib.hid hl'
  clear ha hb hl hl'
  by_cases hnn : n = n'
  · have hd : ((n : Int) != (n' : Int)) = false := by simp [hnn]
    have HNN := Lib.hid hnn
    clear hnn
    go_enter Try.func30, Try.ntmps30
    go_wp2_with fail
    go_loopw [5] (fun k wr => CmpRelL w xs ys k wr) (fun k _ => n - (intOf k).toNat)
    case atStart => exact ⟨0, 0, rfl, Nat.zero_le _, rfl, rfl⟩
    case round =>
      obtain ⟨i, nq, rfl, hi, ht, rfl⟩ := hrel
      rw [HL.out] at hi
      have HT := Lib.hid ht
      clear ht
      by_cases hlt : i < n
      · obtain ⟨b, o, x, A1, n1, c1, rfl, hbB, hxi, hcell, hr1, hn1⟩ := HA.out.at_ hlt
        obtain ⟨b', o', y, A2, n2, c2, rfl, hbB', hyi, hcell', hr2, hn2⟩ := HB.out.at_ (k := i) (by have := HNN.out; omega)
        have HX := Lib.hid hxi
        have HY := Lib.hid hyi
        have HR1 := Lib.hid hr1
        have HR2 := Lib.hid hr2
        have hli : (i : Int) < (n : Int) := by omega
        have hli' : (i : Int) < (n' : Int) := by have := HNN.out; omega
        have h0 : (0 : Int) ≤ (i : Int) := by omega
        have hlt' : i < n' := by omega
        clear hxi hyi hr1 hr2
        go_upto_region 6 with (fail)
        by_cases hxy : x = y
        · have hd2 : (x == y) = true := by simp [hxy]
          have HXY := Lib.hid hxy
          clear hxy
          go_quiet ((go_at_call 34; first | exact quiet_ai (ints_calls (by exact HR1.out) (by exact HR2.out) hn1) | exact Calls.quiet_of (ints_calls (by exact HR1.out) (by exact HR2.out) hn1)))
          go_wp2_with fail
          go_roundw
          case rel => exact ⟨i + 1, _, by go_num, by rw [HL.out]; omega, take_eq_succ HT.out HX.out HY.out HXY.out, rfl⟩
          case measure => simp [intOf]; omega
        · have hd2 : (x == y) = false := by simp [hxy]
          have HXY := Lib.hid hxy
          clear hxy
          go_quiet ((go_at_call 34; first | exact quiet_ai (ints_calls (by exact HR1.out) (by exact HR2.out) hn1) | exact Calls.quiet_of (ints_calls (by exact HR1.out) (by exact HR2.out) hn1)))
          go_wp2_with fail
          go_ret
          rw [show (xs == ys) = false by simp; exact ne_of_at HX.out HY.out HXY.out]
          exact ⟨rfl, _, World.drewN_drewN _ _ _⟩
      · go_wp2_with fail
        go_ret
        rw [show (xs == ys) = true by
          simp
          have := HT.out
          rw [List.take_of_length_le (by rw [HL.out]; omega), List.take_of_length_le (by rw [HL'.out]; have := HNN.out; omega)] at this
          exact this]
        exact ⟨rfl, _, rfl⟩
  · have hd : ((n : Int) != (n' : Int)) = true := by simp; omega
    have HNN := Lib.hid (show (xs == ys) = false by simp; rintro rfl; exact hnn (by rw [← HL.out, HL'.out]))
    clear hnn
    go_enter Try.func30, Try.ntmps30
    go_wp2_with fail
    go_ret
    rw [HNN.out]
    exact ⟨rfl, 0, rfl⟩

def CmpRelS (w : World) (xs ys : List (List UInt8)) (k : Value) (wr : World) : Prop := ∃ i nq : Nat, k = .int .i64 (i : Int) ∧ i ≤ xs.length ∧ xs.take i = ys.take i ∧ wr = w.drewN nq
set_option maxRecDepth 100000 in
set_option maxHeartbeats 400000 in
theorem strings_calls {w : World} {B B' : Nat} {A A' : Option Addr} {n n' c c' : Nat} {xs ys : List (List UInt8)} (ha : Rd w B 1 A n (sv xs)) (hb : Rd w B' 1 A' n' (sv ys)) (hm : n ≤ 140737488355328) :
    Calls Try.prog 52 #[.slice A n c, .slice A' n' c'] w (Quiet w (.bool (xs == ys))) := by
  have hl : xs.length = n := by have := ha.len; rw [sv_len] at this; exact this
  have hl' : ys.length = n' := by have := hb.len; rw [sv_len] at this; exact this
  have HA := Lib.hid ha
  have HB := Lib.hid hb
  have HL := Lib.hid hl
  have HL' := Lib.hid hl'
  clear ha hb hl hl'
  by_cases hnn : n = n'
  · have hd : ((n : Int) != (n' : Int)) = false := by simp [hnn]
    have HNN := Lib.hid hnn
    clear hnn
    go_enter Try.func52, Try.ntmps52
    go_wp2_with fail
    go_loopw [5] (fun k wr => CmpRelS w xs ys k wr) (fun k _ => n - (intOf k).toNat)
    case atStart => exact ⟨0, 0, rfl, Nat.zero_le _, rfl, rfl⟩
    case round =>
      obtain ⟨i, nq, rfl, hi, ht, rfl⟩ := hrel
      rw [HL.out] at hi
      have HT := Lib.hid ht
      clear ht
      by_cases hlt : i < n
      · obtain ⟨b, o, x, rfl, hbB, hxi, hcell⟩ := sv_at HA.out hlt
        obtain ⟨b', o', y, rfl, hbB', hyi, hcell'⟩ := sv_at HB.out (k := i) (by have := HNN.out; omega)
        have HX := Lib.hid hxi
        have HY := Lib.hid hyi
        have hli : (i : Int) < (n : Int) := by omega
        have hli' : (i : Int) < (n' : Int) := by have := HNN.out; omega
        have h0 : (0 : Int) ≤ (i : Int) := by omega
        have hlt' : i < n' := by omega
        clear hxi hyi
        go_upto_region 6 with (fail)
        go_quiet (fail)
        by_cases hxy : x.data.toList = y.data.toList
        · have hd2 : (x.toList == y.toList) = true := by rw [Lib.toList_data, Lib.toList_data]; simpa using hxy
          rw [hd2]
          have HXY := Lib.hid hxy
          clear hxy
          go_wp2_with fail
          go_roundw
          case rel => exact ⟨i + 1, _, by go_num, by rw [HL.out]; omega, take_eq_succ HT.out HX.out HY.out HXY.out, rfl⟩
          case measure => simp [intOf]; omega
        · have hd2 : (x.toList == y.toList) = false := by rw [Lib.toList_data, Lib.toList_data]; simpa using hxy
          rw [hd2]
          have HXY := Lib.hid hxy
          clear hxy
          go_wp2_with fail
          go_ret
          rw [show (xs == ys) = false by simp; exact ne_of_at HX.out HY.out HXY.out]
          exact ⟨rfl, _, World.drewN_drewN _ _ _⟩
      · go_wp2_with fail
        go_ret
        rw [show (xs == ys) = true by
          simp
          have := HT.out
          rw [List.take_of_length_le (by rw [HL.out]; omega), List.take_of_length_le (by rw [HL'.out]; have := HNN.out; omega)] at this
          exact this]
        exact ⟨rfl, _, rfl⟩
  · have hd : ((n : Int) != (n' : Int)) = true := by simp; omega
    have HNN := Lib.hid (show (xs == ys) = false by simp; rintro rfl; exact hnn (by rw [← HL.out, HL'.out]))
    clear hnn
    go_enter Try.func52, Try.ntmps52
    go_wp2_with fail
    go_ret
    rw [HNN.out]
    exact ⟨rfl, 0, rfl⟩

end Go.Proofs.Ytolognhjdmkohaa
