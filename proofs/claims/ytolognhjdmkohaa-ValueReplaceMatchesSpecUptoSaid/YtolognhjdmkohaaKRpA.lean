/-
  Trees whose rows lie apart from one another, and one node of such a tree written anew.
-/
import Derived.Test.YtolognhjdmkohaaKRepM
import Derived.Test.YtolognhjdmkohaaJ9
namespace Go.Proofs.Ytolognhjdmkohaa
open Go.RowKit
set_option linter.unusedVariables false
set_option linter.unusedSimpArgs false

/-- a block that may be written -/
def UnF (w : World) (b : Nat) : Prop := ∀ o, w.frozen? ⟨b, o, none⟩ = false
theorem UnF.keep {w w' : World} {b : Nat} (h : UnF w b) (hk : w'.heap[b]? = w.heap[b]?) : UnF w' b := fun o => (World.frozen?_of_block (a := ⟨b, o, none⟩) hk).trans (h o)
/-- a forest in a row at b, o: the parts of each tree lie in blocks of an interval of their own, in which b is not -/
def FInT (w : World) : VF → Nat → Nat → Nat → Nat → Prop
  | .nil, _, _, _, _ => True
  | .cons d p r, lo, hi, b, o => ∃ l m, lo ≤ l ∧ l ≤ m ∧ m ≤ hi ∧ ¬ (l ≤ b ∧ b < m) ∧ UnF w b ∧ (∃ sb sn sp, Cells5 w b o d sb sn sp ∧ HdS w (fun x => l ≤ x ∧ x < m) d p.len (fun b' o' => FInT w p l m b' o') sb sn sp) ∧ FInT w r m hi b (o + 5)
def VInT (w : World) (lo hi : Nat) (v : Value) (d : Nd) (p : VF) : Prop :=
  ∃ sb sn sp, v = .agg #[.int .i64 d.k, .int .i64 d.n, sb, sn, sp] ∧ HdS w (fun x => lo ≤ x ∧ x < hi) d p.len (fun b o => FInT w p lo hi b o) sb sn sp
theorem FInT.keep {w w' : World} : ∀ (F : VF) (lo hi lo' hi' b o : Nat), lo' ≤ lo → hi ≤ hi' → (∀ k, lo ≤ k → k < hi → k ≠ b → w'.heap[k]? = w.heap[k]?) → w'.heap[b]? = w.heap[b]? → FInT w F lo hi b o → FInT w' F lo' hi' b o := by
  intro F
  induction F with
  | nil => intros; trivial
  | cons d p r ih1 ih2 =>
    rintro lo hi lo' hi' b o h1 h2 hk hb ⟨l, m, e1, e2, e3, e4, e5, ⟨sb, sn, sp, ⟨c0, c1, c2, c3, c4⟩, hd⟩, hr⟩
    have hc : ∀ q : Addr, q.block = b → w'.cell? q = w.cell? q := fun q hq => cell_of_heap hb q hq
    refine ⟨l, m, by omega, e2, by omega, e4, e5.keep hb, ⟨sb, sn, sp, ⟨(hc _ rfl).trans c0, (hc _ rfl).trans c1, (hc _ rfl).trans c2, (hc _ rfl).trans c3, (hc _ rfl).trans c4⟩, ?_⟩, ?_⟩
    · have hs : ∀ k, l ≤ k ∧ k < m → w'.heap[k]? = w.heap[k]? := fun k hq => hk k (by omega) (by omega) (fun e => e4 (e ▸ hq))
      exact hd.mono (fun q hq => cell_of_heap (hs q.block hq) q rfl) (fun _ h => h) (fun b' o' hb' h => ih1 l m l m b' o' (Nat.le_refl _) (Nat.le_refl _) (fun k h1 h2 _ => hs k ⟨h1, h2⟩) (hs b' hb') h)
    · exact ih2 m hi m hi' b (o + 5) (Nat.le_refl _) h2 (fun k a1 a2 a3 => hk k (by omega) a2 a3) hb hr
theorem VInT.keep {w w' : World} {lo hi : Nat} {v : Value} {d : Nd} {p : VF} (h : VInT w lo hi v d p) (hk : ∀ k, lo ≤ k → k < hi → w'.heap[k]? = w.heap[k]?) : VInT w' lo hi v d p := by
  obtain ⟨sb, sn, sp, e, h⟩ := h
  exact ⟨sb, sn, sp, e, h.mono (fun q hq => cell_of_heap (hk q.block hq.1 hq.2) q rfl) (fun _ h => h) (fun b o hb hf => FInT.keep p lo hi lo hi b o (Nat.le_refl _) (Nat.le_refl _) (fun k a1 a2 _ => hk k a1 a2) (hk b hb.1 hb.2) hf)⟩
theorem FInT.fins {w w' : World} {S : Nat → Prop} : ∀ (F : VF) (lo hi b o : Nat), (∀ x, lo ≤ x → x < hi → S x) → (∀ q : Addr, lo ≤ q.block → q.block < hi → q.block ≠ b → w'.cell? q = w.cell? q) → (∀ q : Addr, q.block = b → o ≤ q.off → w'.cell? q = w.cell? q) → FInT w F lo hi b o → FInS w' S F b o := by
  intro F
  induction F with
  | nil => intros; trivial
  | cons d p r ih1 ih2 =>
    rintro lo hi b o hS hk hb ⟨l, m, e1, e2, e3, e4, e5, ⟨sb, sn, sp, ⟨c0, c1, c2, c3, c4⟩, hd⟩, hr⟩
    have hs : ∀ q : Addr, l ≤ q.block ∧ q.block < m → w'.cell? q = w.cell? q := fun q hq => hk q (by omega) (by omega) (fun e => e4 (e ▸ hq))
    refine ⟨⟨sb, sn, sp, ⟨(hb ⟨b, o, none⟩ rfl (Nat.le_refl _)).trans c0, (hb ⟨b, o + 1, none⟩ rfl (Nat.le_add_right _ _)).trans c1, (hb ⟨b, o + 2, none⟩ rfl (Nat.le_add_right _ _)).trans c2, (hb ⟨b, o + 3, none⟩ rfl (Nat.le_add_right _ _)).trans c3, (hb ⟨b, o + 4, none⟩ rfl (Nat.le_add_right _ _)).trans c4⟩, ?_⟩, ?_⟩
    · exact hd.mono hs (fun x hx => hS x (by omega) (by omega)) (fun b' o' hb' h => ih1 l m b' o' (fun x a b => hS x (by omega) (by omega)) (fun q h1 h2 _ => hs q ⟨h1, h2⟩) (fun q hq _ => hs q (hq ▸ hb')) h)
    · exact ih2 m hi b (o + 5) (fun x a b => hS x (by omega) b) (fun q a1 a2 a3 => hk q (by omega) a2 a3) (fun q a1 a2 => hb q a1 (by omega)) hr
theorem VInT.vins {w : World} {lo hi : Nat} {v : Value} {d : Nd} {p : VF} (h : VInT w lo hi v d p) : VInS w (fun b => lo ≤ b ∧ b < hi) v d p := by
  obtain ⟨sb, sn, sp, e, h⟩ := h
  exact ⟨sb, sn, sp, e, h.mono (fun _ _ => rfl) (fun _ h => h) (fun b o _ hf => FInT.fins p lo hi b o (fun x a b => ⟨a, b⟩) (fun _ _ _ _ => rfl) (fun _ _ _ => rfl) hf)⟩
/-- the path leads from one address to another -/
def PAt (w : World) : List Int → Nat → Nat → Nat → Nat → Prop
  | [], b, o, b', o' => b' = b ∧ o' = o
  | k :: r, b, o, b', o' => ∃ n c b1 o1, w.cell? ⟨b, o + 4, none⟩ = some (.slice (some ⟨b1, o1, none⟩) n c) ∧ PAt w r b1 (o1 + k.toNat * 5) b' o'
theorem PAt.app {w : World} : ∀ (a c : List Int) (b o b' o' b'' o'' : Nat), PAt w a b o b' o' → PAt w c b' o' b'' o'' → PAt w (a ++ c) b o b'' o'' := by
  intro a
  induction a with
  | nil => rintro c b o b' o' b'' o'' ⟨rfl, rfl⟩ h; exact h
  | cons k r ih =>
    rintro c b o b' o' b'' o'' ⟨n, cc, b1, o1, hc, h⟩ h'
    exact ⟨n, cc, b1, o1, hc, ih c _ _ _ _ _ _ h h'⟩
theorem PAt.keep {w w' : World} {B : Nat} (hb : Below B w w') : ∀ (a : List Int) (d : Nd) (p : VF) (b o b' o' i : Nat) (x : Nd × VF), NAt w B b o d p → pathV d p a i = .inr x → PAt w a b o b' o' → PAt w' a b o b' o' := by
  intro a
  induction a with
  | nil => intro d p b o b' o' i x _ _ h; exact h
  | cons k r ih =>
    rintro d p b o b' o' i x hn hp ⟨n, c, b1, o1, hc, h⟩
    rcases pathV_cases d p k r i with ⟨e, _⟩ | ⟨j, d', p', q, rfl, hj, hd, e⟩
    · rw [e] at hp; cases hp
    · rw [e] at hp
      obtain ⟨b2, o2, c2, hc2, _, hn2⟩ := hn.part hd hj
      rw [hc] at hc2
      cases hc2
      exact ⟨_, _, b1, o1, (hb.cell (by exact hn.1)).trans hc, ih d' p' b1 _ b' o' (i + 1) x (by rw [Int.toNat_natCast]; exact hn2) hp h⟩
/-- neither a number of the program's nor a slice -/
def Ntv (u : Value) : Prop := (∃ x, u = .int .u8 x) ∨ (∃ s, u = .string s)
theorem ntv_bv (l : List UInt8) : ∀ u ∈ bv l, Ntv u := by
  intro u hu
  simp only [bv, List.mem_map] at hu
  obtain ⟨x, _, rfl⟩ := hu
  exact .inl ⟨_, rfl⟩
theorem ntv_sv (l : List (List UInt8)) : ∀ u ∈ sv l, Ntv u := by
  intro u hu
  simp only [sv, List.mem_map] at hu
  obtain ⟨x, _, rfl⟩ := hu
  exact .inr ⟨_, rfl⟩
theorem RdS.ntv {w w' : World} {S S' : Nat → Prop} {A : Option Addr} {n : Nat} {xs : List Value} (h : RdS w S A n xs) (hx : ∀ u ∈ xs, Ntv u) (hk : ∀ q u, w.cell? q = some u → Ntv u → w'.cell? q = some u) (hS : ∀ b, S b → S' b) : RdS w' S' A n xs :=
  ⟨h.1, fun h0 => by obtain ⟨b, o, e, hb, hc⟩ := h.2 h0; exact ⟨b, o, e, hS b hb, fun j u hu => hk _ u (hc j u hu) (hx u (List.mem_of_getElem? hu))⟩⟩
/-- the node at bn, on is written anew; all else is as it was -/
structure Nw (w w' : World) (S : Nat → Prop) (bn on : Nat) (e : Nd) (q : VF) : Prop where
  old : ∃ dd Ab nb cb An nn cn Ap np cp, Cells5 w bn on dd (.slice Ab nb cb) (.slice An nn cn) (.slice Ap np cp)
  out : ∀ a : Addr, (a.block ≠ bn ∨ a.off < on ∨ on + 5 ≤ a.off) → w'.cell? a = w.cell? a
  new : ∃ sb sn sp, Cells5 w' bn on e sb sn sp ∧ HdS w' S e q.len (FInS w' S q) sb sn sp
/-- a node that reads -/
def NS (w : World) (S : Nat → Prop) (b o : Nat) (d : Nd) (p : VF) : Prop := ∃ sb sn sp, Cells5 w b o d sb sn sp ∧ HdS w S d p.len (FInS w S p) sb sn sp
def NT (w : World) (lo hi b o : Nat) (d : Nd) (p : VF) : Prop := ∃ sb sn sp, Cells5 w b o d sb sn sp ∧ HdS w (fun x => lo ≤ x ∧ x < hi) d p.len (fun b' o' => FInT w p lo hi b' o') sb sn sp
theorem cell_spot {w : World} {a : Addr} {u : Value} (h : w.cell? a = some u) : a = ⟨a.block, a.off, none⟩ := by
  obtain ⟨b, o, s⟩ := a
  unfold World.cell? at h
  cases s with
  | none => rfl
  | some s =>
    exfalso
    revert h
    cases w.heap[b]? with
    | none => simp
    | some ob => cases ob <;> simp
theorem Nw.ntv {w w' : World} {S : Nat → Prop} {bn on : Nat} {e : Nd} {q : VF} (h : Nw w w' S bn on e q) : ∀ a u, w.cell? a = some u → Ntv u → w'.cell? a = some u := by
  intro a u ha hu
  by_cases hq : a.block ≠ bn ∨ a.off < on ∨ on + 5 ≤ a.off
  · exact (h.out a hq).trans ha
  · exfalso
    have he := cell_spot ha
    obtain ⟨b, o, s⟩ := a
    simp only at hq he
    obtain ⟨dd, Ab, nb, cb, An, nn, cn, Ap, np, cp, c0, c1, c2, c3, c4⟩ := h.old
    obtain rfl : s = none := by cases he; rfl
    obtain rfl : b = bn := by omega
    have key : ∀ v, w.cell? ⟨b, o, none⟩ = some v → ¬ Ntv v → False := fun v hv hn => by rw [ha] at hv; cases hv; exact hn hu
    have nt1 : ∀ x : Int, ¬ Ntv (.int .i64 x) := fun x hx => by rcases hx with ⟨y, hy⟩ | ⟨s, hs⟩ <;> simp_all
    have nt2 : ∀ A n c, ¬ Ntv (.slice A n c) := fun A n c hx => by rcases hx with ⟨y, hy⟩ | ⟨s, hs⟩ <;> simp_all
    rcases (show o = on ∨ o = on + 1 ∨ o = on + 2 ∨ o = on + 3 ∨ o = on + 4 by omega) with rfl | rfl | rfl | rfl | rfl
    · exact key _ c0 (nt1 _)
    · exact key _ c1 (nt1 _)
    · exact key _ c2 (nt2 _ _ _)
    · exact key _ c3 (nt2 _ _ _)
    · exact key _ c4 (nt2 _ _ _)
/-- what is known of the part that the path leads through -/
def Goal (w' : World) (S : Nat → Prop) (lo hi bn on b o : Nat) (X : Nd × VF) : Prop := ((bn = b ∧ on = o) ∨ (lo ≤ bn ∧ bn < hi)) ∧ NS w' S b o X.1 X.2
theorem forest_rep {w w' : World} {S : Nat → Prop} {bn on : Nat} {e : Nd} {q : VF} (hw : Nw w w' S bn on e q) (X : Nd × VF) : ∀ (F : VF) (lo hi b o j : Nat) (d' : Nd) (p' r' : VF), FInT w F lo hi b o → (∀ x, lo ≤ x → x < hi → S x) → F.drop j = .cons d' p' r' →
    (∀ l m, lo ≤ l → m ≤ hi → ¬ (l ≤ b ∧ b < m) → NT w l m b (o + j * 5) d' p' → Goal w' S l m bn on b (o + j * 5) X) →
    ((bn = b ∧ on = o + j * 5) ∨ (lo ≤ bn ∧ bn < hi ∧ bn ≠ b)) ∧ FInS w' S (F.setAt j X.1 X.2) b o := by
  intro F
  induction F with
  | nil => intro lo hi b o j d' p' r' _ _ h _; cases j <;> cases h
  | cons d p r ih1 ih2 =>
    rintro lo hi b o j d' p' r' ⟨l, m, e1, e2, e3, e4, e5, hhead, hr⟩ hS hdr hIH
    cases j with
    | zero =>
      rw [VF.drop_zero] at hdr
      cases hdr
      obtain ⟨hl, hns⟩ := hIH l m e1 e3 e4 (by rw [Nat.zero_mul, Nat.add_zero]; exact hhead)
      rw [Nat.zero_mul, Nat.add_zero] at *
      refine ⟨?_, hns, ?_⟩
      · rcases hl with ⟨a1, a2⟩ | ⟨a1, a2⟩
        · exact .inl ⟨a1, a2⟩
        · exact .inr ⟨by omega, by omega, fun h => e4 (by omega)⟩
      · refine FInT.fins r m hi b (o + 5) (fun x a1 a2 => hS x (by omega) a2) (fun a a1 a2 a3 => hw.out a ?_) (fun a a1 a2 => hw.out a ?_) hr
        · rcases hl with ⟨b1, b2⟩ | ⟨b1, b2⟩
          · exact .inl (by omega)
          · exact .inl (by omega)
        · rcases hl with ⟨b1, b2⟩ | ⟨b1, b2⟩
          · exact .inr (.inr (by omega))
          · exact .inl (fun h => e4 (by omega))
    | succ j =>
      have ho : o + 5 + j * 5 = o + (j + 1) * 5 := by omega
      obtain ⟨hl, hns⟩ := ih2 m hi b (o + 5) j d' p' r' hr (fun x a b => hS x (by omega) b) hdr (by rw [ho]; exact fun l' m' a b c d => hIH l' m' (by omega) b c d)
      rw [ho] at hl
      refine ⟨?_, ?_, hns⟩
      · rcases hl with h | ⟨a1, a2, a3⟩
        · exact .inl h
        · exact .inr ⟨by omega, a2, a3⟩
      · obtain ⟨sb, sn, sp, ⟨c0, c1, c2, c3, c4⟩, hd⟩ := hhead
        have hk : ∀ a : Addr, a.block = b → a.off < o + 5 → w'.cell? a = w.cell? a := fun a h1 h2 => hw.out a (by
          rcases hl with ⟨b1, b2⟩ | ⟨b1, b2, b3⟩
          · exact .inr (.inl (by omega))
          · exact .inl (by omega))
        have hk2 : ∀ a : Addr, l ≤ a.block ∧ a.block < m → w'.cell? a = w.cell? a := fun a h1 => hw.out a (by
          rcases hl with ⟨b1, b2⟩ | ⟨b1, b2, b3⟩
          · exact .inl (fun h => e4 (by omega))
          · exact .inl (by omega))
        exact ⟨sb, sn, sp, ⟨(hk ⟨b, o, none⟩ rfl (show o < o + 5 by omega)).trans c0, (hk ⟨b, o + 1, none⟩ rfl (show o + 1 < o + 5 by omega)).trans c1, (hk ⟨b, o + 2, none⟩ rfl (show o + 2 < o + 5 by omega)).trans c2, (hk ⟨b, o + 3, none⟩ rfl (show o + 3 < o + 5 by omega)).trans c3, (hk ⟨b, o + 4, none⟩ rfl (show o + 4 < o + 5 by omega)).trans c4⟩,
          hd.mono hk2 (fun x hx => hS x (by omega) (by omega)) (fun b' o' hb' h => FInT.fins p l m b' o' (fun x a1 a2 => hS x (by omega) (by omega)) (fun a a1 a2 _ => hk2 a ⟨a1, a2⟩) (fun a h1 _ => hk2 a (h1 ▸ hb')) h)⟩
theorem node_rep {w w' : World} {S : Nat → Prop} {bn on : Nat} {e : Nd} {q : VF} (hw : Nw w w' S bn on e q) : ∀ (path : List Int) (d : Nd) (p : VF) (lo hi b o i : Nat) (x : Nd × VF), NT w lo hi b o d p → ¬ (lo ≤ b ∧ b < hi) → (∀ x, lo ≤ x → x < hi → S x) → pathV d p path i = .inr x → PAt w path b o bn on →
    Goal w' S lo hi bn on b o (repV path d p e q) := by
  intro path
  induction path with
  | nil =>
    rintro d p lo hi b o i x hn hb hS hp ⟨rfl, rfl⟩
    exact ⟨.inl ⟨rfl, rfl⟩, hw.new⟩
  | cons k r ih =>
    rintro d p lo hi b o i x ⟨sb, sn, sp, ⟨c0, c1, c2, c3, c4⟩, Ab, nb, cb, An, nn, cn, Ap, cp, rfl, rfl, rfl, h4, h5, h6, h6', h7, h8, h9⟩ hb hS hp ⟨n, c, b1, o1, hc, hpa⟩
    rcases pathV_cases d p k r i with ⟨e1, _⟩ | ⟨j, d', p', r', rfl, hj, hd, e1⟩
    · rw [e1] at hp; cases hp
    rw [e1] at hp
    obtain ⟨b2, o2, rfl, hb2, hf⟩ := h9 (by omega)
    rw [hc] at c4
    cases c4
    rw [Int.toNat_natCast] at hpa
    obtain ⟨X, hX⟩ : ∃ X, repV r d' p' e q = X := ⟨_, rfl⟩
    obtain ⟨hl, hfs⟩ := forest_rep hw X p lo hi b1 o1 j d' p' r' hf hS hd (fun l m a1 a2 a3 hn => by
      rw [← hX]
      exact ih d' p' l m b1 (o1 + j * 5) (i + 1) x hn a3 (fun x y z => hS x (by omega) (by omega)) hp hpa)
    rw [repV_go hd, hX]
    have hbn : lo ≤ bn ∧ bn < hi := by
      rcases hl with ⟨a1, a2⟩ | ⟨a1, a2, a3⟩
      · rw [a1]; exact hb2
      · exact ⟨a1, a2⟩
    have hk : ∀ a : Addr, a.block = b → w'.cell? a = w.cell? a := fun a h1 => hw.out a (.inl (fun h => hb (by omega)))
    refine ⟨.inr hbn, _, _, _, ⟨(hk _ rfl).trans c0, (hk _ rfl).trans c1, (hk _ rfl).trans c2, (hk _ rfl).trans c3, (hk _ rfl).trans hc⟩, Ab, nb, cb, An, nn, cn, some ⟨b1, o1, none⟩, cp, rfl, rfl, ?_, h4, h5, ?_, h6', h7.ntv (ntv_bv _) hw.ntv (fun x hx => hS x hx.1 hx.2), h8.ntv (ntv_sv _) hw.ntv (fun x hx => hS x hx.1 hx.2), fun _ => ⟨b1, o1, rfl, hS b1 hb2.1 hb2.2, hfs⟩⟩
    · rw [VF.len_setAt]
    · rw [VF.len_setAt]; exact h6
theorem FInT.at_ {w : World} : ∀ (F : VF) (lo hi b o j : Nat) (d' : Nd) (p' r' : VF), FInT w F lo hi b o → F.drop j = .cons d' p' r' → UnF w b ∧ ∃ l m, NT w l m b (o + j * 5) d' p' := by
  intro F
  induction F with
  | nil => intro lo hi b o j d' p' r' _ h; cases j <;> cases h
  | cons d p r _ ih2 =>
    rintro lo hi b o j d' p' r' ⟨l, m, e1, e2, e3, e4, e5, hhead, hr⟩ hdr
    cases j with
    | zero =>
      rw [VF.drop_zero] at hdr
      cases hdr
      exact ⟨e5, l, m, by rw [Nat.zero_mul, Nat.add_zero]; exact hhead⟩
    | succ j =>
      obtain ⟨_, l', m', h⟩ := ih2 m hi b (o + 5) j d' p' r' hr hdr
      exact ⟨e5, l', m', by rw [show o + (j + 1) * 5 = o + 5 + j * 5 by omega]; exact h⟩
theorem path_unf {w : World} {bn on : Nat} : ∀ (path : List Int) (d : Nd) (p : VF) (lo hi b o i : Nat) (x : Nd × VF), NT w lo hi b o d p → UnF w b → pathV d p path i = .inr x → PAt w path b o bn on → UnF w bn := by
  intro path
  induction path with
  | nil => rintro d p lo hi b o i x _ hu _ ⟨rfl, rfl⟩; exact hu
  | cons k r ih =>
    rintro d p lo hi b o i x ⟨sb, sn, sp, ⟨c0, c1, c2, c3, c4⟩, Ab, nb, cb, An, nn, cn, Ap, cp, rfl, rfl, rfl, h4, h5, h6, h6', h7, h8, h9⟩ hu hp ⟨n, c, b1, o1, hc, hpa⟩
    rcases pathV_cases d p k r i with ⟨e1, _⟩ | ⟨j, d', p', r', rfl, hj, hd, e1⟩
    · rw [e1] at hp; cases hp
    rw [e1] at hp
    obtain ⟨b2, o2, rfl, hb2, hf⟩ := h9 (by omega)
    rw [hc] at c4
    cases c4
    rw [Int.toNat_natCast] at hpa
    obtain ⟨hu', l, m, hn⟩ := FInT.at_ p lo hi b1 o1 j d' p' r' hf hd
    exact ih d' p' l m b1 _ (i + 1) x hn hu' hp hpa
end Go.Proofs.Ytolognhjdmkohaa
