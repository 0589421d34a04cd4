/-
  Paths; the contract of value.find.
-/
/-
  The contracts of slices.Clone.
-/
/-
  Values in memory, with the blocks that they lie in.
-/
/-
  What value.clone makes, in memory.
-/
import Derived.Test.YtolognhjdmkohaaJ7
import Derived.WalkSpells
import Derived.Deep.AppendLies
namespace Go.Proofs.Ytolognhjdmkohaa
open Go.RowKit
set_option linter.unusedVariables false
set_option linter.unusedSimpArgs false

/-- where a path leads: the first place at which it leads nowhere, or a node with its parts -/
def pathV : Nd → VF → List Int → Nat → Sum Nat (Nd × VF)
  | d, p, [], _ => .inr (d, p)
  | d, p, k :: r, i => if k < 0 ∨ (p.len : Int) ≤ k then .inl i else match p.drop k.toNat with | .cons d' p' _ => pathV d' p' r (i + 1) | .nil => .inl i
theorem pathV_nil (d : Nd) (p : VF) (i : Nat) : pathV d p [] i = .inr (d, p) := by unfold pathV; rfl
theorem pathV_bad {d : Nd} {p : VF} {k : Int} {r : List Int} {i : Nat} (h : k < 0 ∨ (p.len : Int) ≤ k) : pathV d p (k :: r) i = .inl i := by rw [pathV, if_pos h]
theorem pathV_go {d d' : Nd} {p p' q : VF} {k : Nat} {r : List Int} {i : Nat} (hk : k < p.len) (hd : p.drop k = .cons d' p' q) : pathV d p ((k : Int) :: r) i = pathV d' p' r (i + 1) := by
  rw [pathV, if_neg (by omega), Int.toNat_natCast, hd]
/-- a node with its parts, at an address -/
def NAt (w : World) (B b o : Nat) (d : Nd) (p : VF) : Prop := b < B ∧ ∃ sb sn sp, Cells5 w b o d sb sn sp ∧ Hd w B d p.len (FIn w B p) sb sn sp
theorem NAt.keep {w w' : World} {B B' b o : Nat} {d : Nd} {p : VF} (h : NAt w B b o d p) (hk : ∀ p : Addr, p.block < B → w'.cell? p = w.cell? p) (hB : B ≤ B') : NAt w' B' b o d p := by
  obtain ⟨hb, sb, sn, sp, ⟨c0, c1, c2, c3, c4⟩, hd⟩ := h
  exact ⟨by omega, sb, sn, sp, ⟨(hk _ hb).trans c0, (hk _ hb).trans c1, (hk _ hb).trans c2, (hk _ hb).trans c3, (hk _ hb).trans c4⟩, hd.mono hk hB (FIn.keep hk hB p)⟩
theorem NAt.on {w w' : World} {b o : Nat} {d : Nd} {p : VF} (h : NAt w w.heap.size b o d p) (hb : Below w.heap.size w w') : NAt w' w'.heap.size b o d p := h.keep (fun q hq => hb.cell hq) hb.size
theorem NAt.part {w : World} {B b o i : Nat} {d d' : Nd} {p p' r : VF} (h : NAt w B b o d p) (hd : p.drop i = .cons d' p' r) (hi : i < p.len) :
    ∃ b' o' c, w.cell? ⟨b, o + 4, none⟩ = some (.slice (some ⟨b', o', none⟩) p.len c) ∧ p.len ≤ c ∧ NAt w B b' (o' + i * 5) d' p' := by
  obtain ⟨hb, sb, sn, sp, hc, Ab, nb, cb, An, nn, cn, Ap, cp, rfl, rfl, rfl, _, _, hpc, _, _, _, hp⟩ := h
  obtain ⟨b', o', rfl, hb', hf⟩ := hp (by omega)
  exact ⟨b', o', cp, hc.2.2.2.2, hpc, hb', hf.at_ hd⟩
theorem NAt.len {w : World} {B b o : Nat} {d : Nd} {p : VF} (h : NAt w B b o d p) : ∃ A c, w.cell? ⟨b, o + 4, none⟩ = some (.slice A p.len c) := by
  obtain ⟨hb, sb, sn, sp, hc, Ab, nb, cb, An, nn, cn, Ap, cp, rfl, rfl, rfl, _⟩ := h
  exact ⟨_, _, hc.2.2.2.2⟩
theorem NAt.val {w : World} {B b o : Nat} {d : Nd} {p : VF} (h : NAt w B b o d p) : ∃ sb sn sp, Cells5 w b o d sb sn sp ∧ VIn w B (.agg #[.int .i64 d.k, .int .i64 d.n, sb, sn, sp]) d p := by
  obtain ⟨hb, sb, sn, sp, hc, hd⟩ := h
  exact ⟨sb, sn, sp, hc, sb, sn, sp, rfl, hd⟩

/-- what find answers -/
def FdEnd (w : World) (r : Sum Nat (Nd × VF)) (e : Ending) (w' : World) : Prop :=
  Below w.heap.size w w' ∧ ((∃ i : Nat, r = .inl i ∧ e = .returned (.tuple #[.pointer none, .agg #[.int .i64 12, .int .i64 (i : Int)]])) ∨
    (∃ d p b o, r = .inr (d, p) ∧ e = .returned (.tuple #[.pointer (some ⟨b, o, none⟩), .agg #[.int .i64 0, .int .i64 0]]) ∧ NAt w w.heap.size b o d p))
def FdRel (w : World) (r : Sum Nat (Nd × VF)) (path : List Int) (n : Nat) (v k : Value) : Prop :=
  ∃ (i b o : Nat) (d : Nd) (p : VF), i ≤ n ∧ k = .int .i64 (i : Int) ∧ v = .pointer (some ⟨b, o, none⟩) ∧ NAt w w.heap.size b o d p ∧ r = pathV d p (path.drop i) i
set_option maxRecDepth 100000 in
set_option maxHeartbeats 1000000 in
theorem find_calls {w : World} {b o : Nat} {d : Nd} {p : VF} {A : Option Addr} {n c : Nat} {path : List Int} (hv : NAt w w.heap.size b o d p) (hr : Rd w w.heap.size 1 A n (iv path)) (hn : n ≤ 1048576) (hpl : p.len ≤ 9223372036854775807) :
    Calls Try.prog 54 #[.pointer (some ⟨b, o, none⟩), .slice A n c] w (FdEnd w (pathV d p path 0)) := by
  have HL := Lib.hid (show path.length = n by have := hr.len; rw [iv_len] at this; exact this)
  have HR := Lib.hid hr
  have HV := Lib.hid hv
  clear hr hv
  go_enter Try.func54, Try.ntmps54
  go_wp2_with fail
  go_loop [0, 10] (FdRel w (pathV d p path 0) path n) (fun _ k => n - (intOf k).toNat)
  case atStart => exact ⟨0, b, o, d, p, Nat.zero_le _, rfl, rfl, HV.out, by simp⟩
  case round =>
    obtain ⟨i, b', o', d', p', hi, rfl, rfl, hat, hres⟩ := hrel
    have HAT := Lib.hid hat
    have HRES := Lib.hid hres
    clear hat hres
    by_cases hlt : i < n
    · obtain ⟨bp, op, k, rfl, hbp, hk, hck⟩ := iv_at HR.out hlt
      have hck' := fun ob => cell_up (o := ob) hck
      have HK := Lib.hid (show path.drop i = k :: path.drop (i + 1) by
        rw [List.drop_eq_getElem_cons (by rw [HL.out]; exact hlt)]
        congr 1
        exact (List.getElem?_eq_some_iff.1 hk).2)
      have hli : (i : Int) < (n : Int) := by omega
      have h0 : (0 : Int) ≤ (i : Int) := by omega
      clear hk
      by_cases hbad : k < 0
      · have HB := Lib.hid (show pathV d p path 0 = .inl i by rw [HRES.out, HK.out]; exact pathV_bad (.inl hbad))
        go_wp2_with (go_at_call 46; refine (vfault_calls _ _ _).mono ?_; rintro e w' ⟨rfl, rfl⟩)
        refine bodyPost_ret (v := .tuple #[.pointer none, .agg #[.int .i64 12, .int .i64 (i : Int)]]) (by simp [results, Try.results54, go_sem]) rfl ?_
        exact ⟨bel2 _ _ _, .inl ⟨i, HB.out, rfl⟩⟩
      · have hk0 : ¬ k < 0 := hbad
        by_cases hbig : (p'.len : Int) ≤ k
        · have HB := Lib.hid (show pathV d p path 0 = .inl i by rw [HRES.out, HK.out]; exact pathV_bad (.inr hbig))
          obtain ⟨A4, c4, q4⟩ := HAT.out.len
          have q4' := fun ob => cell_up (o := ob) q4
          go_wp2_with (go_at_call 46; refine (vfault_calls _ _ _).mono ?_; rintro e w' ⟨rfl, rfl⟩)
          refine bodyPost_ret (v := .tuple #[.pointer none, .agg #[.int .i64 12, .int .i64 (i : Int)]]) (by simp [results, Try.results54, go_sem]) rfl ?_
          exact ⟨bel2 _ _ _, .inl ⟨i, HB.out, rfl⟩⟩
        · obtain ⟨j, rfl⟩ := Int.eq_ofNat_of_zero_le (show 0 ≤ k by omega)
          have hj : j < p'.len := by omega
          obtain ⟨d2, p2, hdr⟩ := VF.drop_cons hj
          obtain ⟨b2, o2, c2, q4, hc2, hat2⟩ := HAT.out.part hdr hj
          have q4' := fun ob => cell_up (o := ob) q4
          have HA2 := Lib.hid hat2
          have HB := Lib.hid (show pathV d p path 0 = pathV d2 p2 (path.drop (i + 1)) (i + 1) by rw [HRES.out, HK.out]; exact pathV_go hj hdr)
          have hj1 : (j : Int) < (p'.len : Int) := by omega
          have hj0 : (0 : Int) ≤ (j : Int) := by omega
          clear hat2 hdr
          go_wp2_with fail
          go_round
          case rel => exact ⟨i + 1, b2, o2 + j * 5, d2, p2, by omega, by go_num, rfl, HA2.out, HB.out⟩
          case measure => simp [intOf]; omega
    · have HB := Lib.hid (show pathV d p path 0 = .inr (d', p') by rw [HRES.out, List.drop_of_length_le (by rw [HL.out]; omega)]; exact pathV_nil _ _ _)
      go_wp2_with fail
      refine bodyPost_ret (v := .tuple #[.pointer (some ⟨b', o', none⟩), .agg #[.int .i64 0, .int .i64 0]]) (by simp [results, Try.results54, go_sem]) rfl ?_
      exact ⟨bel1 _ _, .inr ⟨d', p', b', o', HB.out, rfl, HAT.out⟩⟩
end Go.Proofs.Ytolognhjdmkohaa
namespace Go.Proofs.Ytolognhjdmkohaa
open Go.RowKit
set_option linter.unusedVariables false
set_option linter.unusedSimpArgs false

theorem eql_nil {t e : TypeId} (h : Try.prog.underlying t = some (.slice e)) (w : World) (a : Option Addr) (n c : Nat) : (binOp .eql t (.slice a n c) (.slice none 0 0)).run Try.prog w = .ok (.bool a.isNone) w := by
  simp only [binOp]
  simp [Op.equal, Op.maxDepth, Lib.run_equalIn_slice_nil w 9999 t e a n c 0 0 h]
theorem own_empty (w : World) (e : TypeId) : (w.alloc (.cells #[] e)).ownsRow w.heap.size e 1 (.slice (some ⟨w.heap.size, 0, none⟩) 0 0) 0 [] :=
  ⟨rfl, .inr ⟨w.heap.size, 0, #[], rfl, Nat.le_refl _, heap_alloc_new w _, Nat.le_refl _, Nat.zero_le _, rfl, rfl⟩⟩
/-- a copy -/
def cloneBEnd (w : World) (n : Nat) (xs : List UInt8) (e : Ending) (w' : World) : Prop := ∃ A c, e = .returned (.slice A n c) ∧ w'.ownsRow w.heap.size 5 1 (.slice A n c) n (bv xs) ∧ Below w.heap.size w w'
set_option maxRecDepth 100000 in
theorem cloneB_calls {w : World} {A : Option Addr} {n c : Nat} {xs : List UInt8} (h : Rd w w.heap.size 1 A n (bv xs)) (hn : n ≤ 1048576) : Calls Try.prog 70 #[.slice A n c] w (cloneBEnd w n xs) := by
  have heq := eql_nil Try.underlying22
  rcases A with _ | ad
  · have h0 : n = 0 := by
      rcases Nat.eq_zero_or_pos n with h0 | h0
      · exact h0
      · obtain ⟨b, o, e, _⟩ := h.2 h0; cases e
    subst h0
    have hx := h.empty
    have HX := Lib.hid hx
    clear h hx
    go_enter Try.func70, Try.ntmps70
    go_wp2_with fail
    go_ret
    exact ⟨none, 0, rfl, by rw [HX.out]; exact World.ownsRow_nil _ _ _ _, Below.refl _ _⟩
  · have HR := Lib.hid h
    clear h
    go_enter Try.func70, Try.ntmps70
    go_wp2_with (at_builtin; refine wpList_appB _ slB rfl (.tmp 5) (.tmp 6) rfl w.heap.size _ 0 0 [] rfl (own_empty w _) w.heap.size (some ad) n c (bv xs) rfl (HR.out.below (bel1 _ _)) (bv_one _) (by omega) (by simp only [alloc_size]; omega) (bel1 _ _) (Nat.le_refl _) ?_; intro A2 c2 w2 hown2 _ hb2; simp only [Nat.zero_add, List.nil_append] at hown2)
    go_ret
    exact ⟨A2, c2, by simp, hown2, hb2⟩
/-- a copy -/
def cloneSEnd (w : World) (n : Nat) (xs : List (List UInt8)) (e : Ending) (w' : World) : Prop := ∃ A c, e = .returned (.slice A n c) ∧ w'.ownsRow w.heap.size 9 1 (.slice A n c) n (sv xs) ∧ Below w.heap.size w w'
set_option maxRecDepth 100000 in
theorem cloneS_calls {w : World} {A : Option Addr} {n c : Nat} {xs : List (List UInt8)} (h : Rd w w.heap.size 1 A n (sv xs)) (hn : n ≤ 1048576) : Calls Try.prog 71 #[.slice A n c] w (cloneSEnd w n xs) := by
  have heq := eql_nil Try.underlying23
  rcases A with _ | ad
  · have h0 : n = 0 := by
      rcases Nat.eq_zero_or_pos n with h0 | h0
      · exact h0
      · obtain ⟨b, o, e, _⟩ := h.2 h0; cases e
    subst h0
    have hx := h.empty
    have HX := Lib.hid hx
    clear h hx
    go_enter Try.func71, Try.ntmps71
    go_wp2_with fail
    go_ret
    exact ⟨none, 0, rfl, by rw [HX.out]; exact World.ownsRow_nil _ _ _ _, Below.refl _ _⟩
  · have HR := Lib.hid h
    clear h
    go_enter Try.func71, Try.ntmps71
    go_wp2_with (at_builtin; refine wpList_appB _ slS rfl (.tmp 5) (.tmp 6) rfl w.heap.size _ 0 0 [] rfl (own_empty w _) w.heap.size (some ad) n c (sv xs) rfl (HR.out.below (bel1 _ _)) (sv_one _) (by omega) (by simp only [alloc_size]; omega) (bel1 _ _) (Nat.le_refl _) ?_; intro A2 c2 w2 hown2 _ hb2; simp only [Nat.zero_add, List.nil_append] at hown2)
    go_ret
    exact ⟨A2, c2, by simp, hown2, hb2⟩
/-- a copy -/
def cloneIEnd (w : World) (n : Nat) (xs : List Int) (e : Ending) (w' : World) : Prop := ∃ A c, e = .returned (.slice A n c) ∧ w'.ownsRow w.heap.size 3 1 (.slice A n c) n (iv xs) ∧ Below w.heap.size w w'
set_option maxRecDepth 100000 in
theorem cloneI_calls {w : World} {A : Option Addr} {n c : Nat} {xs : List Int} (h : Rd w w.heap.size 1 A n (iv xs)) (hn : n ≤ 1048576) : Calls Try.prog 74 #[.slice A n c] w (cloneIEnd w n xs) := by
  have heq := eql_nil Try.underlying46
  rcases A with _ | ad
  · have h0 : n = 0 := by
      rcases Nat.eq_zero_or_pos n with h0 | h0
      · exact h0
      · obtain ⟨b, o, e, _⟩ := h.2 h0; cases e
    subst h0
    have hx := h.empty
    have HX := Lib.hid hx
    clear h hx
    go_enter Try.func74, Try.ntmps74
    go_wp2_with fail
    go_ret
    exact ⟨none, 0, rfl, by rw [HX.out]; exact World.ownsRow_nil _ _ _ _, Below.refl _ _⟩
  · have HR := Lib.hid h
    clear h
    go_enter Try.func74, Try.ntmps74
    go_wp2_with (at_builtin; refine wpList_appB _ slI rfl (.tmp 5) (.tmp 6) rfl w.heap.size _ 0 0 [] rfl (own_empty w _) w.heap.size (some ad) n c (iv xs) rfl (HR.out.below (bel1 _ _)) (iv_one _) (by omega) (by simp only [alloc_size]; omega) (bel1 _ _) (Nat.le_refl _) ?_; intro A2 c2 w2 hown2 _ hb2; simp only [Nat.zero_add, List.nil_append] at hown2)
    go_ret
    exact ⟨A2, c2, by simp, hown2, hb2⟩
end Go.Proofs.Ytolognhjdmkohaa
namespace Go.Proofs.Ytolognhjdmkohaa
open Go.RowKit
set_option linter.unusedVariables false
set_option linter.unusedSimpArgs false

/-- a slice that reads as cells, in blocks of S -/
def RdS (w : World) (S : Nat → Prop) (A : Option Addr) (n : Nat) (xs : List Value) : Prop :=
  xs.length = n ∧ (0 < n → ∃ b o, A = some ⟨b, o, none⟩ ∧ S b ∧ ∀ j u, xs[j]? = some u → w.cell? ⟨b, o + j, none⟩ = some u)
theorem RdS.rd {w : World} {S : Nat → Prop} {B : Nat} {A : Option Addr} {n : Nat} {xs : List Value} (h : RdS w S A n xs) (hS : ∀ b, S b → b < B) : Rd w B 1 A n xs :=
  ⟨by rw [h.1, Nat.mul_one], fun h0 => by obtain ⟨b, o, e, hb, hc⟩ := h.2 h0; exact ⟨b, o, e, hS b hb, hc⟩⟩
theorem RdS.keep {w w' : World} {S S' : Nat → Prop} {A : Option Addr} {n : Nat} {xs : List Value} (h : RdS w S A n xs) (hk : ∀ p : Addr, S p.block → w'.cell? p = w.cell? p) (hS : ∀ b, S b → S' b) : RdS w' S' A n xs :=
  ⟨h.1, fun h0 => by obtain ⟨b, o, e, hb, hc⟩ := h.2 h0; exact ⟨b, o, e, hS b hb, fun j u hu => (hk _ hb).trans (hc j u hu)⟩⟩
/-- a row that a call made, as what it reads -/
theorem RdS.own {w : World} {S : Nat → Prop} {base e : Nat} {A : Option Addr} {n c : Nat} {xs : List Value} (h : w.ownsRow base e 1 (.slice A n c) n xs) (hS : ∀ b, base ≤ b → b < w.heap.size → S b) : RdS w S A n xs := by
  refine ⟨by have := h.1; omega, fun hn => ?_⟩
  obtain ⟨b, o, rfl, hb, hc⟩ := (Rd.of_own h).2 hn
  exact ⟨b, o, rfl, hS b (h.lt b rfl).1 hb, hc⟩
def HdS (w : World) (S : Nat → Prop) (d : Nd) (np : Nat) (Q : Nat → Nat → Prop) (sb sn sp : Value) : Prop :=
  ∃ Ab nb cb An nn cn Ap cp, sb = .slice Ab nb cb ∧ sn = .slice An nn cn ∧ sp = .slice Ap np cp ∧ nb ≤ cb ∧ nn ≤ cn ∧ np ≤ cp ∧ cp ≤ maxLen ∧
    RdS w S Ab nb (bv d.bs) ∧ RdS w S An nn (sv d.ns) ∧ (0 < np → ∃ b o, Ap = some ⟨b, o, none⟩ ∧ S b ∧ Q b o)
def FInS (w : World) (S : Nat → Prop) : VF → Nat → Nat → Prop
  | .nil, _, _ => True
  | .cons d p r, b, o => (∃ sb sn sp, Cells5 w b o d sb sn sp ∧ HdS w S d p.len (FInS w S p) sb sn sp) ∧ FInS w S r b (o + 5)
def VInS (w : World) (S : Nat → Prop) (v : Value) (d : Nd) (p : VF) : Prop :=
  ∃ sb sn sp, v = .agg #[.int .i64 d.k, .int .i64 d.n, sb, sn, sp] ∧ HdS w S d p.len (FInS w S p) sb sn sp
theorem HdS.mono {w w' : World} {S S' : Nat → Prop} {d : Nd} {np : Nat} {Q Q' : Nat → Nat → Prop} {sb sn sp : Value} (h : HdS w S d np Q sb sn sp) (hk : ∀ p : Addr, S p.block → w'.cell? p = w.cell? p) (hS : ∀ b, S b → S' b) (hQ : ∀ b o, S b → Q b o → Q' b o) : HdS w' S' d np Q' sb sn sp := by
  obtain ⟨Ab, nb, cb, An, nn, cn, Ap, cp, h1, h2, h3, h4, h5, h6, h6', h7, h8, h9⟩ := h
  refine ⟨Ab, nb, cb, An, nn, cn, Ap, cp, h1, h2, h3, h4, h5, h6, h6', h7.keep hk hS, h8.keep hk hS, fun h0 => ?_⟩
  obtain ⟨b, o, e, hb, hq⟩ := h9 h0
  exact ⟨b, o, e, hS b hb, hQ b o hb hq⟩
theorem FInS.keep {w w' : World} {S S' : Nat → Prop} (hk : ∀ p : Addr, S p.block → w'.cell? p = w.cell? p) (hS : ∀ b, S b → S' b) : ∀ (F : VF) (b o : Nat), S b → FInS w S F b o → FInS w' S' F b o := by
  intro F
  induction F with
  | nil => intro b o _ _; trivial
  | cons d p r ih1 ih2 =>
    rintro b o hb ⟨⟨sb, sn, sp, ⟨c0, c1, c2, c3, c4⟩, hd⟩, hr⟩
    exact ⟨⟨sb, sn, sp, ⟨(hk _ hb).trans c0, (hk _ hb).trans c1, (hk _ hb).trans c2, (hk _ hb).trans c3, (hk _ hb).trans c4⟩, hd.mono hk hS ih1⟩, ih2 b _ hb hr⟩
theorem VInS.keep {w w' : World} {S S' : Nat → Prop} {v : Value} {d : Nd} {p : VF} (h : VInS w S v d p) (hk : ∀ p : Addr, S p.block → w'.cell? p = w.cell? p) (hS : ∀ b, S b → S' b) : VInS w' S' v d p := by
  obtain ⟨sb, sn, sp, e, h⟩ := h
  exact ⟨sb, sn, sp, e, h.mono hk hS (FInS.keep hk hS p)⟩
theorem HdS.hd {w : World} {S : Nat → Prop} {B : Nat} {d : Nd} {np : Nat} {Q Q' : Nat → Nat → Prop} {sb sn sp : Value} (h : HdS w S d np Q sb sn sp) (hS : ∀ b, S b → b < B) (hQ : ∀ b o, Q b o → Q' b o) : Hd w B d np Q' sb sn sp := by
  obtain ⟨Ab, nb, cb, An, nn, cn, Ap, cp, h1, h2, h3, h4, h5, h6, h6', h7, h8, h9⟩ := h
  refine ⟨Ab, nb, cb, An, nn, cn, Ap, cp, h1, h2, h3, h4, h5, h6, h6', h7.rd hS, h8.rd hS, fun h0 => ?_⟩
  obtain ⟨b, o, e, hb, hq⟩ := h9 h0
  exact ⟨b, o, e, hS b hb, hQ b o hq⟩
theorem FInS.fin {w : World} {S : Nat → Prop} {B : Nat} (hS : ∀ b, S b → b < B) : ∀ (F : VF) (b o : Nat), FInS w S F b o → FIn w B F b o := by
  intro F
  induction F with
  | nil => intro b o _; trivial
  | cons d p r ih1 ih2 =>
    rintro b o ⟨⟨sb, sn, sp, hc, hd⟩, hr⟩
    exact ⟨⟨sb, sn, sp, hc, hd.hd hS ih1⟩, ih2 b _ hr⟩
theorem VInS.vin {w : World} {S : Nat → Prop} {B : Nat} {v : Value} {d : Nd} {p : VF} (h : VInS w S v d p) (hS : ∀ b, S b → b < B) : VIn w B v d p := by
  obtain ⟨sb, sn, sp, e, h⟩ := h
  exact ⟨sb, sn, sp, e, h.hd hS (FInS.fin hS p)⟩
/-- the cells of a row of values -/
def FCells (w : World) (S : Nat → Prop) : VF → List Value → Prop
  | .nil, cs => cs = []
  | .cons d p r, cs => ∃ sb sn sp cs', cs = .int .i64 d.k :: .int .i64 d.n :: sb :: sn :: sp :: cs' ∧ HdS w S d p.len (FInS w S p) sb sn sp ∧ FCells w S r cs'
theorem FCells.keep {w w' : World} {S S' : Nat → Prop} (hk : ∀ p : Addr, S p.block → w'.cell? p = w.cell? p) (hS : ∀ b, S b → S' b) : ∀ (F : VF) (cs : List Value), FCells w S F cs → FCells w' S' F cs := by
  intro F
  induction F with
  | nil => intro cs h; exact h
  | cons d p r _ ih =>
    rintro cs ⟨sb, sn, sp, cs', e, h, hr⟩
    exact ⟨sb, sn, sp, cs', e, h.mono hk hS (FInS.keep hk hS p), ih cs' hr⟩
theorem FCells.snoc {w : World} {S : Nat → Prop} {d : Nd} {p : VF} {sb sn sp : Value} (h : HdS w S d p.len (FInS w S p) sb sn sp) : ∀ (F : VF) (cs : List Value), FCells w S F cs → FCells w S (F.snoc d p) (cs ++ [.int .i64 d.k, .int .i64 d.n, sb, sn, sp]) := by
  intro F
  induction F with
  | nil => intro cs e; cases e; exact ⟨sb, sn, sp, [], rfl, h, rfl⟩
  | cons d' p' r _ ih =>
    rintro cs ⟨sb', sn', sp', cs', rfl, h', hr⟩
    exact ⟨sb', sn', sp', _, rfl, h', ih cs' hr⟩
theorem FCells.len {w : World} {S : Nat → Prop} : ∀ (F : VF) (cs : List Value), FCells w S F cs → cs.length = F.len * 5 := by
  intro F
  induction F with
  | nil => intro cs e; cases e; rfl
  | cons d p r _ ih =>
    rintro cs ⟨sb, sn, sp, cs', rfl, _, hr⟩
    have := ih cs' hr
    simp only [List.length_cons, VF.len]; omega
theorem FCells.fin {w : World} {S : Nat → Prop} : ∀ (F : VF) (cs : List Value) (b o : Nat), FCells w S F cs → (∀ j u, cs[j]? = some u → w.cell? ⟨b, o + j, none⟩ = some u) → FInS w S F b o := by
  intro F
  induction F with
  | nil => intro cs b o _ _; trivial
  | cons d p r _ ih =>
    rintro cs b o ⟨sb, sn, sp, cs', rfl, h, hr⟩ hc
    refine ⟨⟨sb, sn, sp, ⟨hc 0 _ rfl, hc 1 _ rfl, hc 2 _ rfl, hc 3 _ rfl, hc 4 _ rfl⟩, h⟩, ih cs' b (o + 5) hr fun j u hu => ?_⟩
    rw [Nat.add_assoc]
    rw [show 5 + j = j + 5 by omega]
    exact hc (j + 5) u (by simpa using hu)
/-- a variable that holds a value -/
def Bx (w : World) (g : Nat) (a b c d e : Value) : Prop := w.heap[g]? = some (.cells #[a, b, c, d, e] 26 (0, 0))
theorem Bx.new (w : World) (a b c d e : Value) : Bx (w.alloc (.cells #[a, b, c, d, e] 26)) w.heap.size a b c d e := heap_alloc_new w _
theorem Bx.lt {w : World} {g : Nat} {a b c d e : Value} (h : Bx w g a b c d e) : g < w.heap.size := (Array.getElem?_eq_some_iff.1 h).1
theorem Bx.below {w w' : World} {B g : Nat} {a b c d e : Value} (h : Bx w g a b c d e) (hb : Below B w w') (hg : g < B) : Bx w' g a b c d e := (hb.block g hg).trans h
theorem Bx.on {w w' : World} {g : Nat} {a b c d e : Value} (h : Bx w g a b c d e) (hb : Below w.heap.size w w') : Bx w' g a b c d e := h.below hb h.lt
theorem Bx.cells {w : World} {g : Nat} {a b c d e : Value} (h : Bx w g a b c d e) : w.cell? ⟨g, 0, none⟩ = some a ∧ w.cell? ⟨g, 1, none⟩ = some b ∧ w.cell? ⟨g, 2, none⟩ = some c ∧ w.cell? ⟨g, 3, none⟩ = some d ∧ w.cell? ⟨g, 4, none⟩ = some e := by
  refine ⟨?_, ?_, ?_, ?_, ?_⟩ <;> (rw [cell_of_row w g _ _ _ _ h]; rfl)
theorem Bx.free {w : World} {g : Nat} {a b c d e : Value} (h : Bx w g a b c d e) (o : Nat) : w.frozen? ⟨g, o, none⟩ = false := by
  unfold World.frozen?
  simp [Bx] at h
  simp [h]
theorem Bx.set4 {w : World} {g : Nat} {a b c d e : Value} (h : Bx w g a b c d e) (x : Value) : Bx (w.setCell ⟨g, 4, none⟩ x) g a b c d x := by
  unfold Bx at h ⊢
  simp only [World.setCell, Array.getElem?_modify, h]
  simp
theorem Bx.far {w : World} {g h o : Nat} {a b c d e x : Value} (k : Bx w g a b c d e) (hne : g ≠ h) : Bx (w.setCell ⟨h, o, none⟩ x) g a b c d e := by
  unfold Bx at k ⊢
  rw [Below.heap_setCell _ _ _ _ (by exact hne)]; exact k
end Go.Proofs.Ytolognhjdmkohaa
namespace Go.Proofs.Ytolognhjdmkohaa
open Go.RowKit
set_option linter.unusedVariables false
set_option linter.unusedSimpArgs false

theorem Rd.on {w W : World} {s n : Nat} {A : Option Addr} {xs : List Value} (h : Rd w w.heap.size s A n xs) (hb : Below w.heap.size w W) : Rd W W.heap.size s A n xs := (h.below hb).more hb.size
theorem belA {W w3 : World} {o : Obj} (h : Below (W.alloc o).heap.size (W.alloc o) w3) : Below W.heap.size W w3 := chain (bel1 _ _) h
theorem beldrew {W w3 : World} (h : Below W.drew.heap.size W.drew w3) : Below W.heap.size W w3 := ⟨h.os, h.tape, h.output, h.size, h.block⟩
theorem beldrewA {W w3 : World} {o : Obj} (h : Below (W.alloc o).drew.heap.size (W.alloc o).drew w3) : Below W.heap.size W w3 := belA (beldrew h)
theorem bx_last {W w3 : World} {a b c d e : Value} (h : Below (W.alloc (.cells #[a, b, c, d, e] 26)).drew.heap.size (W.alloc (.cells #[a, b, c, d, e] 26)).drew w3) : Bx w3 W.heap.size a b c d e :=
  (h.block W.heap.size (by simp)).trans (Bx.new W a b c d e)
theorem bx_last' {W w3 : World} {a b c d e : Value} (h : Below (W.alloc (.cells #[a, b, c, d, e] 26)).heap.size (W.alloc (.cells #[a, b, c, d, e] 26)) w3) : Bx w3 W.heap.size a b c d e :=
  (h.block W.heap.size (by simp)).trans (Bx.new W a b c d e)
/-- the first four cells of a variable -/
abbrev C4 (w : World) (g : Nat) (a b c d : Value) : Prop := w.cell? ⟨g, 0, none⟩ = some a ∧ w.cell? ⟨g, 1, none⟩ = some b ∧ w.cell? ⟨g, 2, none⟩ = some c ∧ w.cell? ⟨g, 3, none⟩ = some d
theorem c4_below {w w' : World} {g B : Nat} {a b c d : Value} (h : C4 w g a b c d) (hb : Below B w w') (hg : g < B) : C4 w' g a b c d :=
  ⟨(hb.cell (by exact hg)).trans h.1, (hb.cell (by exact hg)).trans h.2.1, (hb.cell (by exact hg)).trans h.2.2.1, (hb.cell (by exact hg)).trans h.2.2.2⟩
theorem cell_drew {w : World} {p : Addr} {v : Value} (h : w.cell? p = some v) : w.drew.cell? p = some v := h
theorem C4.up {w : World} {g : Nat} {a b c d : Value} (h : C4 w g a b c d) (o : Obj) : C4 (w.alloc o) g a b c d := ⟨cell_up h.1, cell_up h.2.1, cell_up h.2.2.1, cell_up h.2.2.2⟩
theorem C4.far {w : World} {g h o : Nat} {a b c d x : Value} (k : C4 w g a b c d) (hne : h ≠ g) : C4 (w.setCell ⟨h, o, none⟩ x) g a b c d :=
  ⟨(World.cell?_setCell_far w _ _ x (by exact hne)).trans k.1, (World.cell?_setCell_far w _ _ x (by exact hne)).trans k.2.1, (World.cell?_setCell_far w _ _ x (by exact hne)).trans k.2.2.1, (World.cell?_setCell_far w _ _ x (by exact hne)).trans k.2.2.2⟩
theorem C4.far5 {w : World} {g h : Nat} {a b c d x0 x1 x2 x3 x4 : Value} (k : C4 w g a b c d) (hne : h ≠ g) : C4 (((((w.setCell ⟨h, 0, none⟩ x0).setCell ⟨h, 1, none⟩ x1).setCell ⟨h, 2, none⟩ x2).setCell ⟨h, 3, none⟩ x3).setCell ⟨h, 4, none⟩ x4) g a b c d :=
  ((((k.far hne).far hne).far hne).far hne).far hne
theorem Bx.set5 {w : World} {g : Nat} {a b c d e : Value} (h : Bx w g a b c d e) (x0 x1 x2 x3 x4 : Value) : Bx (((((w.setCell ⟨g, 0, none⟩ x0).setCell ⟨g, 1, none⟩ x1).setCell ⟨g, 2, none⟩ x2).setCell ⟨g, 3, none⟩ x3).setCell ⟨g, 4, none⟩ x4) g x0 x1 x2 x3 x4 := by
  unfold Bx at h ⊢
  simp only [World.setCell, Array.getElem?_modify, h]
  simp
/-- a row stays owned where a block of another type is written -/
def TyAt (w : World) (g : Nat) (T : TypeId) : Prop := ∃ cs fr, w.heap[g]? = some (.cells cs T fr)
theorem Bx.ty {w : World} {g : Nat} {a b c d e : Value} (h : Bx w g a b c d e) : TyAt w g 26 := ⟨_, _, h⟩
theorem TyAt.set {w : World} {g o : Nat} {T : TypeId} {x : Value} (h : TyAt w g T) : TyAt (w.setCell ⟨g, o, none⟩ x) g T := by
  obtain ⟨cs, fr, h⟩ := h
  unfold TyAt
  simp only [World.setCell, Array.getElem?_modify, h]
  simp
theorem own_ty {w : World} {base g o e s n : Nat} {T : TypeId} {v x : Value} {xs : List Value} (h : w.ownsRow base e s v n xs) (ht : TyAt w g T) (hne : e ≠ T) : (w.setCell ⟨g, o, none⟩ x).ownsRow base e s v n xs := by
  refine ⟨h.1, ?_⟩
  rcases h.2 with hn | ⟨k, cap, cur, hv, hk, hh, r⟩
  · exact .inl hn
  · refine .inr ⟨k, cap, cur, hv, hk, ?_, r⟩
    have hkg : k ≠ g := by
      rintro rfl
      obtain ⟨cs, fr, ht⟩ := ht
      rw [hh] at ht
      injection ht with ht
      injection ht with _ ht
      exact hne ht
    rw [Below.heap_setCell _ _ _ _ (by exact hkg)]; exact hh
theorem own_ty5 {w : World} {base g e s n : Nat} {T : TypeId} {v x0 x1 x2 x3 x4 : Value} {xs : List Value} (h : w.ownsRow base e s v n xs) (ht : TyAt w g T) (hne : e ≠ T) : (((((w.setCell ⟨g, 0, none⟩ x0).setCell ⟨g, 1, none⟩ x1).setCell ⟨g, 2, none⟩ x2).setCell ⟨g, 3, none⟩ x3).setCell ⟨g, 4, none⟩ x4).ownsRow base e s v n xs :=
  own_ty (own_ty (own_ty (own_ty (own_ty h ht hne) ht.set hne) ht.set.set hne) ht.set.set.set hne) ht.set.set.set.set hne
theorem below5 {B g : Nat} {w w' : World} (h : Below B w w') (hg : B ≤ g) (x0 x1 x2 x3 x4 : Value) : Below B w (((((w'.setCell ⟨g, 0, none⟩ x0).setCell ⟨g, 1, none⟩ x1).setCell ⟨g, 2, none⟩ x2).setCell ⟨g, 3, none⟩ x3).setCell ⟨g, 4, none⟩ x4) :=
  ((((h.setCell (p := ⟨g, 0, none⟩) hg _).setCell (p := ⟨g, 1, none⟩) hg _).setCell (p := ⟨g, 2, none⟩) hg _).setCell (p := ⟨g, 3, none⟩) hg _).setCell (p := ⟨g, 4, none⟩) hg _
theorem slV : SlT Try.prog 24 26 5 88 := SlT.mk' Try.underlying24 (z := .agg #[.int .i64 0, .int .i64 0, .slice none 0 0, .slice none 0 0, .slice none 0 0]) (by kernel_rfl) rfl (by decide) (by decide)
/-- the blocks that parts lie in: new ones, none of which is the row's own -/
def Sx (wc wr : World) (v : Value) (b : Nat) : Prop := wc.heap.size ≤ b ∧ b < wr.heap.size ∧ v.ownBlock ≠ some b
/-- some parts have been copied -/
def CloRel (W2 wc : World) (g : Nat) (d : Nd) (sb sn : Value) (nb nn : Nat) (p : VF) (k : Value) (wr : World) : Prop :=
  ∃ (i : Nat) (A : Option Addr) (c : Nat) (cs : List Value), k = .int .i64 (i : Int) ∧ i ≤ p.len ∧ Bx wr g (.int .i64 d.k) (.int .i64 d.n) sb sn (.slice A i c) ∧ wr.ownsRow wc.heap.size 26 5 (.slice A i c) i cs ∧
    FCells wr (Sx wc wr (.slice A i c)) (p.take i) cs ∧ wr.ownsRow W2.heap.size 5 1 sb nb (bv d.bs) ∧ wr.ownsRow W2.heap.size 9 1 sn nn (sv d.ns) ∧ Below W2.heap.size W2 wr ∧ wc.heap.size ≤ wr.heap.size
theorem own_grown {w w' : World} {base e s n : Nat} {v v' : Value} {xs : List Value} (h : w.ownsRow base e s v n xs) (hg : w.grownBy w' v'.ownBlock) (hne : v.ownBlock = none ∨ v.ownBlock ≠ v'.ownBlock) : w'.ownsRow base e s v n xs := by
  refine ⟨h.1, ?_⟩
  rcases h.2 with hn | ⟨k, cap, cur, hv, hk, hh, r⟩
  · exact .inl hn
  · refine .inr ⟨k, cap, cur, hv, hk, ?_, r⟩
    subst hv
    rw [hg.block k (Array.getElem?_eq_some_iff.1 hh).1 (by
      rcases hne with hne | hne
      · cases hne
      · intro e; exact hne (by simpa [Value.ownBlock] using e))]
    exact hh
theorem cell_of_heap {w w' : World} {k : Nat} (h : w'.heap[k]? = w.heap[k]?) (p : Addr) (hp : p.block = k) : w'.cell? p = w.cell? p := by
  subst hp
  unfold World.cell?
  rw [h]
theorem clo_next {W2 wc wr w6 w7 : World} {g i g' c c' nb nn : Nat} {A : Option Addr} {d d' : Nd} {p p' r : VF} {cs : List Value} {sb sn sb' sn' sp' : Value}
    (hbx : Bx wr g (.int .i64 d.k) (.int .i64 d.n) sb sn (.slice A i c)) (hrow : wr.ownsRow wc.heap.size 26 5 (.slice A i c) i cs) (hfc : FCells wr (Sx wc wr (.slice A i c)) (p.take i) cs)
    (hob : wr.ownsRow W2.heap.size 5 1 sb nb (bv d.bs)) (hon : wr.ownsRow W2.heap.size 9 1 sn nn (sv d.ns)) (hbel : Below W2.heap.size W2 wr) (hzc : wc.heap.size ≤ wr.heap.size) (hgc : g < wc.heap.size) (hgW : W2.heap.size ≤ g)
    (hdr : p.drop i = .cons d' p' r) (hi : i < p.len) (hb6 : Below wr.heap.size wr w6) (hz6 : wr.heap.size + 1 ≤ w6.heap.size)
    (hv6 : HdS w6 (fun b => wr.heap.size + 1 ≤ b ∧ b < w6.heap.size) d' p'.len (FInS w6 (fun b => wr.heap.size + 1 ≤ b ∧ b < w6.heap.size) p') sb' sn' sp')
    (hg7 : (w6.alloc (.cells #[.int .i64 d'.k, .int .i64 d'.n, sb', sn', sp'] 26)).grownBy w7 (Value.slice A i c).ownBlock)
    (hown7 : w7.ownsRow wc.heap.size 26 5 (.slice (some ⟨g', 0, none⟩) (i + 1) c') (i + 1) (cs ++ [.int .i64 d'.k, .int .i64 d'.n, sb', sn', sp']))
    (hat : (Value.slice A i c).ownBlock = some g' ∨ g' = w6.heap.size + 1) :
    CloRel W2 wc g d sb sn nb nn p (.int .i64 ((i : Int) + 1)) (w7.setCell ⟨g, 4, none⟩ (.slice (some ⟨g', 0, none⟩) (i + 1) c')) := by
  have hz7 := hg7.size
  simp only [alloc_size] at hz7
  have hrl : ∀ k, (Value.slice A i c).ownBlock = some k → wc.heap.size ≤ k ∧ k < wr.heap.size := fun k hk => hrow.lt k hk
  -- a block below the size of w6, other than the row's own, is in w7 as in w6
  have k67 : ∀ b, b < w6.heap.size → (Value.slice A i c).ownBlock ≠ some b → w7.heap[b]? = w6.heap[b]? := fun b hb hne => by
    rw [hg7.block b (by simp only [alloc_size]; omega) (fun e => hne e.symm)]
    exact Below.heap_alloc w6 _ b hb
  have k7r : ∀ b, b < wr.heap.size → (Value.slice A i c).ownBlock ≠ some b → w7.heap[b]? = wr.heap[b]? := fun b hb hne => (k67 b (by omega) hne).trans (hb6.block b hb)
  have hgne : (Value.slice A i c).ownBlock ≠ some g := fun e => by have := (hrl g e).1; omega
  have hg'c : wc.heap.size ≤ g' := by
    rcases hat with h | h
    · exact (hrl g' h).1
    · omega
  have hset : ∀ b, b ≠ g → (w7.setCell ⟨g, 4, none⟩ (.slice (some ⟨g', 0, none⟩) (i + 1) c')).heap[b]? = w7.heap[b]? := fun b hb => Below.heap_setCell _ _ _ _ (by exact hb)
  have hsz : (w7.setCell ⟨g, 4, none⟩ (.slice (some ⟨g', 0, none⟩) (i + 1) c')).heap.size = w7.heap.size := by simp
  have hbx7 : Bx w7 g (.int .i64 d.k) (.int .i64 d.n) sb sn (.slice A i c) := (k7r g (by omega) hgne).trans hbx
  -- the copied parts
  have hf8 : FCells (w7.setCell ⟨g, 4, none⟩ (.slice (some ⟨g', 0, none⟩) (i + 1) c')) (Sx wc (w7.setCell ⟨g, 4, none⟩ (.slice (some ⟨g', 0, none⟩) (i + 1) c')) (.slice (some ⟨g', 0, none⟩) (i + 1) c')) (p.take i) cs := by
    refine FCells.keep (fun q hq => ?_) (fun b hb => ?_) _ _ hfc
    · obtain ⟨h1, h2, h3⟩ := hq
      exact (cell_of_heap ((hset q.block (by omega)).trans (k7r q.block h2 h3)) q rfl)
    · obtain ⟨h1, h2, h3⟩ := hb
      refine ⟨h1, by rw [hsz]; omega, fun e => ?_⟩
      have e' : g' = b := by simpa [Value.ownBlock] using e
      subst e'
      rcases hat with h | h
      · exact h3 h
      · omega
  have hv8 : HdS (w7.setCell ⟨g, 4, none⟩ (.slice (some ⟨g', 0, none⟩) (i + 1) c')) (Sx wc (w7.setCell ⟨g, 4, none⟩ (.slice (some ⟨g', 0, none⟩) (i + 1) c')) (.slice (some ⟨g', 0, none⟩) (i + 1) c')) d' p'.len (FInS (w7.setCell ⟨g, 4, none⟩ (.slice (some ⟨g', 0, none⟩) (i + 1) c')) (Sx wc (w7.setCell ⟨g, 4, none⟩ (.slice (some ⟨g', 0, none⟩) (i + 1) c')) (.slice (some ⟨g', 0, none⟩) (i + 1) c')) p') sb' sn' sp' := by
    have hk : ∀ q : Addr, (wr.heap.size + 1 ≤ q.block ∧ q.block < w6.heap.size) → (w7.setCell ⟨g, 4, none⟩ (.slice (some ⟨g', 0, none⟩) (i + 1) c')).cell? q = w6.cell? q := fun q hq =>
      cell_of_heap ((hset q.block (by omega)).trans (k67 q.block hq.2 (fun e => by have := (hrl q.block e).2; omega))) q rfl
    have hS : ∀ b, (wr.heap.size + 1 ≤ b ∧ b < w6.heap.size) → Sx wc (w7.setCell ⟨g, 4, none⟩ (.slice (some ⟨g', 0, none⟩) (i + 1) c')) (.slice (some ⟨g', 0, none⟩) (i + 1) c') b := fun b hb => by
      refine ⟨by omega, by rw [hsz]; omega, fun e => ?_⟩
      have e' : g' = b := by simpa [Value.ownBlock] using e
      subst e'
      rcases hat with h | h
      · have := (hrl g' h).2; omega
      · omega
    exact hv6.mono hk hS (FInS.keep hk hS p')
  refine ⟨i + 1, some ⟨g', 0, none⟩, c', cs ++ [.int .i64 d'.k, .int .i64 d'.n, sb', sn', sp'], by go_num, hi, hbx7.set4 _, ?_, ?_, ?_, ?_, ?_, by rw [hsz]; omega⟩
  · exact own_set hown7 hgc
  · rw [VF.take_succ hdr]; exact FCells.snoc hv8 _ _ hf8
  · exact own_ty (own_grown (own_below (own_below hob hb6 (Nat.le_refl _)) (bel1 _ _) (Nat.le_refl _)) hg7 (own_ne hob hrow (by decide))) hbx7.ty (by decide)
  · exact own_ty (own_grown (own_below (own_below hon hb6 (Nat.le_refl _)) (bel1 _ _) (Nat.le_refl _)) hg7 (own_ne hon hrow (by decide))) hbx7.ty (by decide)
  · refine Below.setCell (p := ⟨g, 4, none⟩) ?_ hgW _
    have h1 : Below W2.heap.size W2 (w6.alloc (.cells #[.int .i64 d'.k, .int .i64 d'.n, sb', sn', sp'] 26)) := (hbel.trans (hb6.mono hbel.size)).alloc (by have := hbel.size; omega) _
    exact h1.grown hg7 (by have := hbel.size; simp only [alloc_size]; omega) (fun k hk => by have := (hrl k hk).1; omega)
/-- what clone answers -/
def CloEnd (w : World) (d : Nd) (p : VF) (e : Ending) (w' : World) : Prop :=
  ∃ v, e = .returned v ∧ VInS w' (fun b => w.heap.size ≤ b ∧ b < w'.heap.size) v d p ∧ Below w.heap.size w w'
def CloC (d : Nd) (p : VF) : Prop := NdFits d → Fits p → p.len ≤ 1048576 → ∀ (w : World) (v : Value), VIn w w.heap.size v d p → Calls Try.prog 55 #[v] w (CloEnd w d p)
/-- append of one value onto a row of the call's own, as a step of a region that draws -/
theorem step_app5 {P : Program} {ops : Array Oper} {o : Oper} {a : Act} {w : World} {K : Act → World → Prop} {Q : Exit → Act → World → Prop} {E : Prop} {t e : TypeId} {size bytes : Nat} (hT : SlT P t e size bytes) (hgd : o.guard = none) (s x : Operand)
    (ho : o.op = .call { callee := .builtin .append, args := #[s, x], argTypes := #[t, t] })
    (base : Nat) (A : Option Addr) (n c : Nat) (xs : List Value) (hs : a.eval s = .slice A n c) (hown : w.ownsRow base e size (.slice A n c) n xs)
    (gx : Nat) (news : List Value) (hx : a.eval x = .slice (some ⟨gx, 0, none⟩) 1 1) (hl : news.length = size) (hnews : ∀ j u, news[j]? = some u → w.cell? ⟨gx, 0 + j, none⟩ = some u) (h1 : ∀ u ∈ news, u.oneCell' = true)
    (hbytes : (n + 1) * bytes ≤ 140737488355328) (hbase : base ≤ w.heap.size) (H : Nat) (hH : w.heap.size = H)
    (h : ∀ g cap w', w'.ownsRow base e size (.slice (some ⟨g, 0, none⟩) (n + 1) cap) (n + 1) (xs ++ news) → w.grownBy w' (Value.slice A n c).ownBlock → ((Value.slice A n c).ownBlock = some g ∨ g = H) → g < w'.heap.size → K (a.put o.dst (.slice (some ⟨g, 0, none⟩) (n + 1) cap)) w') :
    if Region.wanted o (yielded ops a.tmps) = true then Oper.wp P o a w K Q else E := by
  obtain ⟨i, z, hi, hz, hsz, hby, hzs⟩ := hT.info
  have h63 : n + 1 ≤ maxLen := by
    have h := Nat.le_trans (Nat.le_mul_of_pos_right (n + 1) hT.bpos) hbytes
    simp only [maxLen]
    omega
  refine step_append_lies w hgd s x t ho base e i z size bytes hT.und hi hz hsz hby hzs hT.pos _ n xs hs hown ⟨gx, 0, none⟩ 1 1 news hx (by rw [hl, Nat.one_mul]) (fun j u hu => ?_) h1 (by omega) h63 hbytes hbase H hH h
  have e : (⟨gx, 0, none⟩ : Addr).add j = ⟨gx, 0 + j, none⟩ := by unfold Addr.add; split <;> simp_all
  rw [e]; exact hnews j u hu
theorem clo_pick {d : Nd} {p r F : VF} {i : Nat} (h : VF.All CloC (F.drop i)) (hd : F.drop i = .cons d p r) (hf : Fits (F.drop i)) : ∀ (w : World) (v : Value), VIn w w.heap.size v d p → Calls Try.prog 55 #[v] w (CloEnd w d p) := by
  rw [hd] at h hf
  exact h.1 hf.1 hf.2.2.1 hf.2.1
theorem bx_grown {w6 w7 : World} {g : Nat} {a b c d e : Value} {ob : Obj} {k : Option Nat} (h : Bx w6 g a b c d e) (hg : (w6.alloc ob).grownBy w7 k) (hne : k ≠ some g) : Bx w7 g a b c d e :=
  (hg.block g (by have := h.lt; simp only [alloc_size]; omega) (fun e => hne e.symm)).trans (h.on (bel1 _ _))
theorem clo_done {W2 wc wr : World} {nb nn cb cn c : Nat} {A1 A2 A : Option Addr} {d : Nd} {p : VF} {cs : List Value} (hrow : wr.ownsRow wc.heap.size 26 5 (.slice A p.len c) p.len cs) (hfc : FCells wr (Sx wc wr (.slice A p.len c)) p cs)
    (hob : wr.ownsRow W2.heap.size 5 1 (.slice A1 nb cb) nb (bv d.bs)) (hon : wr.ownsRow W2.heap.size 9 1 (.slice A2 nn cn) nn (sv d.ns)) (hz : W2.heap.size ≤ wc.heap.size) :
    VInS wr (fun b => W2.heap.size ≤ b ∧ b < wr.heap.size) (.agg #[.int .i64 d.k, .int .i64 d.n, .slice A1 nb cb, .slice A2 nn cn, .slice A p.len c]) d p := by
  refine ⟨_, _, _, rfl, A1, nb, cb, A2, nn, cn, A, c, rfl, rfl, rfl, (own_cap hob).1, (own_cap hon).1, (own_cap hrow).1, (own_cap hrow).2, RdS.own hob (fun b h1 h2 => ⟨h1, h2⟩), RdS.own hon (fun b h1 h2 => ⟨h1, h2⟩), fun h0 => ?_⟩
  obtain ⟨b, o, rfl, hb, hc⟩ := (Rd.of_own hrow).2 h0
  have hb1 := (hrow.lt b rfl).1
  refine ⟨b, o, rfl, ⟨by omega, hb⟩, ?_⟩
  refine FCells.fin p cs b o (FCells.keep (fun _ _ => rfl) (fun x hx => ?_) p cs hfc) hc
  exact ⟨by have := hx.1; omega, hx.2.1⟩
theorem cell_set5 {w : World} {g : Nat} {x0 x1 x2 x3 x4 : Value} (q : Addr) (hq : g ≠ q.block) : (((((w.setCell ⟨g, 0, none⟩ x0).setCell ⟨g, 1, none⟩ x1).setCell ⟨g, 2, none⟩ x2).setCell ⟨g, 3, none⟩ x3).setCell ⟨g, 4, none⟩ x4).cell? q = w.cell? q := by
  rw [World.cell?_setCell_far _ _ _ _ (by exact hq), World.cell?_setCell_far _ _ _ _ (by exact hq), World.cell?_setCell_far _ _ _ _ (by exact hq), World.cell?_setCell_far _ _ _ _ (by exact hq), World.cell?_setCell_far _ _ _ _ (by exact hq)]
theorem news5 (w : World) (a b c d e : Value) (T : TypeId) : ∀ j u, [a, b, c, d, e][j]? = some u → (w.alloc (.cells #[a, b, c, d, e] T)).cell? ⟨w.heap.size, 0 + j, none⟩ = some u := fun j u hu => by
  rw [cell_of_row _ w.heap.size (0 + j) _ T (0, 0) (heap_alloc_new w _), Nat.zero_add]
  simpa using hu
end Go.Proofs.Ytolognhjdmkohaa
