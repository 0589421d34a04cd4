/-
  The law on value.Walk.
-/
import Derived.Test.YtolognhjdmkohaaKRefL
import Derived.Test.YtolognhjdmkohaaKAbv
import Derived.Test.YtolognhjdmkohaaJ19
import Derived.Test.YtolognhjdmkohaaJ15
import Derived.Test.YtolognhjdmkohaaJ14
namespace Go.Proofs.Ytolognhjdmkohaa
open Go.RowKit Go.Shelf
set_option linter.unusedVariables false
set_option linter.unusedSimpArgs false
attribute [local go_sem] Oper.semAt_some

theorem CallsIn.above {F : Fence} {r : Nat} {P : Program} {f : FuncId} {args : Array Value} {w : World} {x : Abv w} {v : Value} (h : CallsIn F r P f args x.w fun e w' => e = .returned v ∧ Below x.w.heap.size x.w w') : CallsIn F r P f args x.w fun e w'' => e = .returned v ∧ ∃ y : Abv w, w'' = y.w :=
  h.mono fun _ w' ⟨he, hb⟩ => ⟨he, ⟨w', chain x.b hb⟩, rfl⟩
section
variable {F : Fence} {n : Nat} {P : Program} {ops : Array Oper} {Q : Exit → Act → World → Prop}
theorem region_above_round {id r : Nat} {a : Act} {w : World} {l : List Oper} (hro : F.round = none) (hd : l.all noDef = true) (hm : P.follows .mixedOrders = true) (hB : Region.lexB .any l.toArray = true)
    (h : wpQuietIn F n P l.toArray (fun w' => ∃ x : Abv w, w' = x.w) (fun a' => ∀ w', (∃ x : Abv w, w' = x.w) → Q .normal a' w') l a) : (Code.region id l.toArray true).wpIn (F.inRound r) n P Q a w := by
  simp only [Region.lexB, Bool.and_eq_true] at hB
  refine wpIn_region_draw fun t => ?_
  refine wpOpsIn_round hro (by simpa using hd) _ _ _ ?_
  simp only [Region.schedule, hm, Bool.true_or, if_true]
  refine wpAnyIn_sound l.toArray.size t _ a _ (wpAnyIn_of_quiet (C := fun w' => ∃ x : Abv w, w' = x.w) (Q := fun a' => ∀ w', (∃ x : Abv w, w' = x.w) → Q .normal a' w') hro (fun _ w' hw' h => h w' hw') _ _ _ _ ⟨⟨_, (Below.refl _ w).drew⟩, rfl⟩ ?_)
  have := wpAnyQIn_lex (F := F) (n := n) (C := fun w' => ∃ x : Abv w, w' = x.w) (md := .any) hB.1 l.toArray.toList 0 (Array.replicate l.toArray.size false) a (by simp) (by simpa using hB.2) (by simpa using h)
  simpa using this
end
/-- data, not a slice -/
def Dat (v : Value) : Prop := ∀ A n c, v ≠ .slice A n c
/-- M speaks of variables that hold a slice -/
def MSl (M : Nat → TypeId → Prop) (w : World) : Prop := ∀ k t, M k t → ∃ t' A n c, One w k t' (.slice A n c)
theorem sm_of_data {M : Nat → TypeId → Prop} {w : World} (hM : MSl M w) {b o : Nat} {v : Value} (h : w.cell? ⟨b, o, none⟩ = some v) (hv : Dat v) : Sm M w b := by
  obtain ⟨cs, t, fr, h1, _⟩ := sm_of_cell h
  refine ⟨cs, t, fr, h1, fun hm => ?_⟩
  obtain ⟨t', A, n, c, ho⟩ := hM _ _ hm
  have h2 : w.cell? ⟨b, o, none⟩ = _ := cell_of_row w b o _ _ _ ho
  rw [h] at h2
  rcases o with _ | o
  · simp at h2; exact hv A n c h2
  · simp at h2
theorem Rd.dat {M : Nat → TypeId → Prop} {w : World} (hM : MSl M w) {B n : Nat} {A : Option Addr} {xs : List Value} (h : Rd w B 1 A n xs) (hx : ∀ u ∈ xs, Dat u) : RdS w (Sm M w) A n xs := by
  refine ⟨by have := h.1; omega, fun hn => ?_⟩
  obtain ⟨b, o, rfl, hb, hc⟩ := h.2 hn
  refine ⟨b, o, rfl, ?_, hc⟩
  have hl : 0 < xs.length := by have := h.1; omega
  exact sm_of_data hM (hc 0 _ (List.getElem?_eq_getElem hl)) (hx _ (List.getElem_mem hl))
theorem dat_bv (bs : List UInt8) : ∀ u ∈ bv bs, Dat u := by
  intro u hu A n c e
  obtain ⟨x, _, rfl⟩ := List.mem_map.1 hu
  cases e
theorem dat_sv (bs : List (List UInt8)) : ∀ u ∈ sv bs, Dat u := by
  intro u hu A n c e
  obtain ⟨x, _, rfl⟩ := List.mem_map.1 hu
  cases e
theorem Hd.dat {M : Nat → TypeId → Prop} {w : World} (hM : MSl M w) {B : Nat} {d : Nd} {np : Nat} {Q Q' : Nat → Nat → Prop} {sb sn sp : Value} (h : Hd w B d np Q sb sn sp) (hQ : ∀ b o, Q b o → 0 < np → Sm M w b ∧ Q' b o) : HdS w (Sm M w) d np Q' sb sn sp := by
  obtain ⟨Ab, nb, cb, An, nn, cn, Ap, cp, h1, h2, h3, h4, h5, h6, h6', h7, h8, h9⟩ := h
  refine ⟨Ab, nb, cb, An, nn, cn, Ap, cp, h1, h2, h3, h4, h5, h6, h6', h7.dat hM (dat_bv _), h8.dat hM (dat_sv _), fun h0 => ?_⟩
  obtain ⟨b, o, e, hb, hq⟩ := h9 h0
  obtain ⟨hs, hq⟩ := hQ b o hq h0
  exact ⟨b, o, e, hs, hq⟩
theorem FIn.dat {M : Nat → TypeId → Prop} {w : World} (hM : MSl M w) {B : Nat} : ∀ (F : VF) (b o : Nat), FIn w B F b o → (0 < F.len → Sm M w b) ∧ FInS w (Sm M w) F b o := by
  intro F
  induction F with
  | nil => intro b o _; exact ⟨fun h => absurd h (Nat.lt_irrefl _), trivial⟩
  | cons d p r ih1 ih2 =>
    rintro b o ⟨⟨sb, sn, sp, hc, hd⟩, hr⟩
    exact ⟨fun _ => sm_of_data hM hc.1 (fun _ _ _ e => by cases e), ⟨sb, sn, sp, hc, hd.dat hM fun b o hq h0 => ⟨(ih1 b o hq).1 h0, (ih1 b o hq).2⟩⟩, (ih2 b _ hr).2⟩
theorem VIn.dat {M : Nat → TypeId → Prop} {w : World} (hM : MSl M w) {B : Nat} {v : Value} {d : Nd} {p : VF} (h : VIn w B v d p) : VInS w (Sm M w) v d p := by
  obtain ⟨sb, sn, sp, e, h⟩ := h
  exact ⟨sb, sn, sp, e, h.dat hM fun b o hq h0 => ⟨(FIn.dat hM p b o hq).1 h0, (FIn.dat hM p b o hq).2⟩⟩
/-- the nodes and their paths as the law reads them -/
def LRd (W : World) (B : Nat) (L : List (List Int × Nd × VF)) (A7 A8 : Option Addr) : Prop :=
  ∀ (i : Nat) (g : List Int × Nd × VF), L[i]? = some g →
    (∃ b o Ab nb cb An nn cn Ap cp, A7 = some ⟨b, o, none⟩ ∧ b < B ∧ W.cell? ⟨b, o + i * 5, none⟩ = some (.int .i64 g.2.1.k) ∧ W.cell? ⟨b, o + i * 5 + 1, none⟩ = some (.int .i64 g.2.1.n) ∧ W.cell? ⟨b, o + i * 5 + 2, none⟩ = some (.slice Ab nb cb) ∧ W.cell? ⟨b, o + i * 5 + 3, none⟩ = some (.slice An nn cn) ∧ W.cell? ⟨b, o + i * 5 + 4, none⟩ = some (.slice Ap g.2.2.len cp) ∧
      VIn W B (.agg #[.int .i64 g.2.1.k, .int .i64 g.2.1.n, .slice Ab nb cb, .slice An nn cn, .slice Ap g.2.2.len cp]) g.2.1 g.2.2 ∧ ItOk g) ∧
    (∃ b o A' c', A8 = some ⟨b, o, none⟩ ∧ b < B ∧ W.cell? ⟨b, o + i, none⟩ = some (.slice A' g.1.length c') ∧ Rd W B 1 A' g.1.length (iv g.1))
theorem LRd.low {W W' : World} {B : Nat} {L : List (List Int × Nd × VF)} {A7 A8 : Option Addr} (h : LRd W B L A7 A8) (hb : Below B W W') : LRd W' B L A7 A8 := by
  intro i g hg
  obtain ⟨⟨b, o, Ab, nb, cb, An, nn, cn, Ap, cp, h1, h2, c0, c1, c2, c3, c4, hv, hok⟩, b', o', A', c', k1, k2, k3, k4⟩ := h i g hg
  have e : ∀ o, W'.cell? ⟨b, o, none⟩ = W.cell? ⟨b, o, none⟩ := fun o => hb.cell h2
  exact ⟨⟨b, o, Ab, nb, cb, An, nn, cn, Ap, cp, h1, h2, (e _).trans c0, (e _).trans c1, (e _).trans c2, (e _).trans c3, (e _).trans c4, hv.below hb (Nat.le_refl _), hok⟩, b', o', A', c', k1, k2, (hb.cell k2).trans k3, k4.below hb⟩
theorem LRd.nil (W : World) (B : Nat) (A7 A8 : Option Addr) : LRd W B [] A7 A8 := fun i g h => by simp at h
/-- the lists are put into their variables -/
theorem RdN.put {W1 w2 : World} {L : List Itm} {A7 A8 : Option Addr} {c7 c8 : Nat} (h : RdN W1 w2 L A7 A8 c7 c8) {g5 g6 t5 t6 : Nat} (o5 : One w2 g5 t5 (.slice none 0 0)) (o6 : One w2 g6 t6 (.slice none 0 0)) (h5 : g5 < W1.heap.size) (h6 : g6 < W1.heap.size) (x y : Value) :
    LRd ((w2.setCell ⟨g5, 0, none⟩ x).setCell ⟨g6, 0, none⟩ y) w2.heap.size L A7 A8 := by
  obtain ⟨cs7, ho, hc, hi, hok, hb1⟩ := h
  have ho' := own_set (o := 0) (x := y) (own_set (o := 0) (x := x) ho h5) h6
  have hi' := OwnI.set (o := 0) (x := y) (OwnI.set (o := 0) (x := x) hi h5) h6
  have hM : MSl (fun k _ => k = g5 ∨ k = g6) w2 := fun k t hk => by
    rcases hk with rfl | rfl
    · exact ⟨_, _, _, _, o5⟩
    · exact ⟨_, _, _, _, o6⟩
  have hkp : KpM (fun k _ => k = g5 ∨ k = g6) w2 ((w2.setCell ⟨g5, 0, none⟩ x).setCell ⟨g6, 0, none⟩ y) := ⟨by simp, fun k cs t fr hk hm => by
    rw [Below.heap_setCell _ _ _ _ (by simp; omega), Below.heap_setCell _ _ _ _ (by simp; omega)]; exact hk⟩
  obtain ⟨W5, hW5⟩ : ∃ W5, (w2.setCell ⟨g5, 0, none⟩ x).setCell ⟨g6, 0, none⟩ y = W5 := ⟨_, rfl⟩
  have hz : W5.heap.size = w2.heap.size := by rw [← hW5]; simp
  rw [hW5] at ho' hi' hkp ⊢
  intro i g hg
  have hl : i < L.length := (List.getElem?_eq_some_iff.1 hg).1
  refine ⟨?_, ?_⟩
  · obtain ⟨b, o, hA, hlt, hcell⟩ := (Rd.of_own ho').2 (by omega)
    obtain ⟨sb, sn, sp, hat, hd⟩ := OutC.at_ L cs7 i g hc hg
    have hd2 := hd_on hd hb1
    obtain ⟨Ab, nb, cb, An, nn, cn, Ap, cp, rfl, rfl, rfl, _⟩ := hd
    have e : ∀ j u, [Value.int .i64 g.2.1.k, .int .i64 g.2.1.n, .slice Ab nb cb, .slice An nn cn, .slice Ap g.2.2.len cp][j]? = some u → W5.cell? ⟨b, o + (i * 5 + j), none⟩ = some u := fun j u hu => hcell _ _ (hat j u hu)
    have hv : VIn w2 w2.heap.size (.agg #[.int .i64 g.2.1.k, .int .i64 g.2.1.n, .slice Ab nb cb, .slice An nn cn, .slice Ap g.2.2.len cp]) g.2.1 g.2.2 := ⟨_, _, _, rfl, hd2⟩
    exact ⟨b, o, Ab, nb, cb, An, nn, cn, Ap, cp, hA, by omega, e 0 _ rfl, e 1 _ rfl, e 2 _ rfl, e 3 _ rfl, e 4 _ rfl, ((hv.dat hM).kp hkp).vin (fun b hb => by have := hb.lt; omega), hok g (List.mem_of_getElem? hg)⟩
  · obtain ⟨vs, ho8, hl8, hel⟩ := hi'
    obtain ⟨b, o, hA, hlt, hcell⟩ := (Rd.of_own ho8).2 (by simp; omega)
    obtain ⟨A', c', hv, hp⟩ := hel i g.1 (by rw [List.getElem?_map, hg]; rfl)
    exact ⟨b, o, A', c', hA, by omega, hcell i _ hv, hz ▸ Rd.of_own hp⟩
theorem flt_fieldH (c i : Int) : ∀ W, (Instr.field 29 (.agg #[.int .i64 c, .int .i64 i]) 0).run Try.prog W = .ok (.int .i64 c) W := by intro W; kernel_rfl
theorem One.far {w : World} {g h o : Nat} {t : TypeId} {v x : Value} (k : One w g t v) (hne : g ≠ h) : One (w.setCell ⟨h, o, none⟩ x) g t v := (Below.heap_setCell _ _ _ _ (by exact hne)).trans k
theorem One.below {w w' : World} {B g : Nat} {t : TypeId} {v : Value} (h : One w g t v) (hb : Below B w w') (hg : g < B) : One w' g t v := (hb.block g hg).trans h
theorem walk_keeps {B : Nat} {W W9 : World} (hb : Below W.heap.size W W9) : KeepsFrom B W W9 := ⟨hb.size, fun k o _ hk _ => (hb.block k (Array.getElem?_eq_some_iff.1 hk).1).trans hk⟩
theorem walk_put {B g : Nat} {W W9 : World} {x : Value} (hb : Below W.heap.size W W9) (hg : g < B) : KeepsFrom B W (W9.setCell ⟨g, 0, none⟩ x) :=
  ⟨by simp; exact hb.size, fun k o hB hk _ => by rw [Below.heap_setCell _ _ _ _ (by show k ≠ g; omega)]; exact (hb.block k (Array.getElem?_eq_some_iff.1 hk).1).trans hk⟩
theorem walk_kp {g : Nat} {W W9 : World} {x : Value} (hb : Below W.heap.size W W9) : KpM (fun k _ => k = g) W (W9.setCell ⟨g, 0, none⟩ x) :=
  ⟨by simp; exact hb.size, fun k cs t fr hk hm => by rw [Below.heap_setCell _ _ _ _ (by exact hm)]; exact (hb.block k (Array.getElem?_eq_some_iff.1 hk).1).trans hk⟩
theorem ints_above {W : World} (y : Abv W) {A A' : Option Addr} {n c c' B r : Nat} {xs : List Int} (ha : Rd W W.heap.size 1 A n (iv xs)) (hb : Rd W B 1 A' n (iv xs)) (hB : B ≤ W.heap.size) (hm : n ≤ 140737488355328) :
    CallsIn Fence.wide r Try.prog 34 #[.slice A n c, .slice A' n c'] y.w fun e w'' => e = .returned (.bool true) ∧ ∃ x : Abv W, w'' = x.w := by
  refine CallsIn.above (callsIn_wide.2 ((ints_calls (ha.on y.b) (hb.below (y.b.mono hB)) hm).mono ?_))
  rintro e w' ⟨rfl, nq, rfl⟩
  exact ⟨by simp, below_drewN _ _⟩
theorem same_above {W : World} (y : Abv W) {B r : Nat} {v v' : Value} {d : Nd} {p : VF} (hv : VIn W W.heap.size v d p) (hv' : VIn W B v' d p) (hB : B ≤ W.heap.size) (hpl : p.len ≤ 1048576) (hf : Fits p) (hn : d.ns.length ≤ 1048576) :
    CallsIn Fence.wide r Try.prog 21 #[v, v'] y.w fun e w'' => e = .returned (.bool true) ∧ ∃ x : Abv W, w'' = x.w := by
  refine CallsIn.above (callsIn_wide.2 ((same_calls hpl hf hn hpl hf (hv.on y.b) (hv'.keep (fun q hq => y.b.cell (by omega)) (Nat.le_trans hB y.b.size))).mono ?_))
  rintro e w' ⟨rfl, hb⟩
  exact ⟨by rw [(sameV_iff d p d p).2 ⟨rfl, rfl⟩], hb⟩
/-- so many nodes have come -/
def WI (w6 : World) (gn : Nat) (pre : List Wk) (W : World) : Prop := One W gn 3 (.int .i64 (pre.length : Int)) ∧ Below gn w6 W
theorem WI.own {w6 : World} {gn : Nat} (hg : gn ≤ w6.heap.size) : OwnFrom w6.heap.size (WI w6 gn) := fun s W W' row h hgr hr => by
  have k := kp0_grown hgr (fun r e => (hr r e).2)
  exact ⟨h.1.kp k id, h.2.grown hgr (Nat.le_trans hg h.2.size) (fun r e => Nat.le_trans hg (hr r e).1)⟩
set_option maxRecDepth 100000 in
set_option maxHeartbeats 8000000 in
theorem lawWalk_calls {w : World} {v : Value} {d : Nd} {p : VF} {st : Int} (hv : VIn w w.heap.size v d p) (hm : Mod d p) :
    Calls Try.prog 10 #[v, .int .i64 st] w fun e w' => e = .returned (.bool true) ∧ Below w.heap.size w w' := by
  have HV := Lib.hid hv
  have HM := Lib.hid hm
  obtain ⟨sb, sn, sp, rfl, hd0⟩ := hv
  obtain ⟨Ab, nb, cb, An, nn, cn, Ap, cp, rfl, rfl, rfl, _⟩ := hd0
  clear hm
  refine (callsIn_wide (n := 9)).1 ?_
  refine callsIn_of_wp_marks Try.func10 rfl trivial ?_ rfl
  refine wpIn_wide.2 ?_
  simp only [Try.ntmps10, List.size_toArray, List.length_cons, List.length_nil, Nat.reduceAdd, Nat.reduceSub, Array.replicate_succ, Array.replicate_zero, List.push_toArray, List.append_toArray, List.nil_append, List.cons_append]
  go_wp2_with fail
  refine (example_calls _).mono ?_
  rintro e w2 ⟨rfl, hb2⟩
  have HX2 := Lib.hid (((Bx.new w (.int .i64 d.k) (.int .i64 d.n) (.slice Ab nb cb) (.slice An nn cn) (.slice Ap p.len cp)).on (bel2 _ (.cells #[.int .i64 st] 3) (.cells #[.bool false] 4))).on hb2)
  have HN2 := Lib.hid (((One.new (w.alloc (.cells #[.int .i64 d.k, .int .i64 d.n, .slice Ab nb cb, .slice An nn cn, .slice Ap p.len cp] 26)) 3 (.int .i64 st)).on (bel1 _ (.cells #[.bool false] 4))).on hb2)
  have HR2 := Lib.hid ((One.new ((w.alloc (.cells #[.int .i64 d.k, .int .i64 d.n, .slice Ab nb cb, .slice An nn cn, .slice Ap p.len cp] 26)).alloc (.cells #[.int .i64 st] 3)) 4 (.bool false)).on hb2)
  have HB2 := Lib.hid (belA (belA (belA hb2)))
  have hw : Below w2.heap.size w2 ((w2.alloc (.cells #[.slice none 0 0] 24)).alloc (.cells #[.slice none 0 0] 52)) := bel2 _ _ _
  have HX3 := Lib.hid (HX2.out.on hw)
  have HN3 := Lib.hid (HN2.out.on hw)
  have HR3 := Lib.hid (HR2.out.on hw)
  have HB3 := Lib.hid (chain HB2.out hw)
  have HL3 := Lib.hid ((One.new w2 24 (.slice none 0 0)).on (bel1 _ (.cells #[.slice none 0 0] 52)))
  have HP3 := Lib.hid (One.new (w2.alloc (.cells #[.slice none 0 0] 24)) 52 (.slice none 0 0))
  have hz2 : w.heap.size + 1 + 1 < w2.heap.size := by have := HR2.out.lt; simpa using this
  obtain ⟨q0, q1, q2, q3, q4⟩ := HX3.out.cells
  clear hb2 hw HX2 HN2 HR2 HB2
  go_wp2_with fail
  obtain ⟨W3, hW3⟩ : ∃ W3, (w2.alloc (.cells #[.slice none 0 0] 24)).alloc (.cells #[.slice none 0 0] 52) = W3 := ⟨_, rfl⟩
  have hz3 : W3.heap.size = w2.heap.size + 1 + 1 := by rw [← hW3]; simp
  simp only [alloc_size] at HN3 HR3 HP3
  rw [hW3] at HX3 HN3 HR3 HB3 HL3 HP3 q0 q1 q2 q3 q4 ⊢
  clear hW3
  refine (valueFault_calls (HV.out.on HB3.out) HM.out).mono ?_
  rintro e w4 ⟨rfl, hb4⟩
  have HX4 := Lib.hid (HX3.out.on hb4)
  have HN4 := Lib.hid (HN3.out.on hb4)
  have HR4 := Lib.hid (HR3.out.on hb4)
  have HB4 := Lib.hid (chain HB3.out hb4)
  have HL4 := Lib.hid (HL3.out.on hb4)
  have HP4 := Lib.hid (HP3.out.on hb4)
  have hz4 : W3.heap.size ≤ w4.heap.size := hb4.size
  clear hb4 q0 q1 q2 q3 q4 HX3 HN3 HR3 HB3 HL3 HP3
  obtain ⟨vc, vi, hvf⟩ : ∃ vc vi, valF d p = (vc, vi) := ⟨_, _, rfl⟩
  have HVF := Lib.hid hvf
  have hfld := flt_fieldH vc vi
  rw [hvf]
  clear hvf
  go_upto_if 15 with (fail)
  go_cut [] from 12 to 20 (fun wx => ∃ A7 c7 A8 c8, One wx w2.heap.size 24 (.slice A7 (walkV d p).length c7) ∧ One wx (w2.heap.size + 1) 52 (.slice A8 (walkV d p).length c8) ∧ LRd wx wx.heap.size (walkV d p) A7 A8 ∧ Below w.heap.size w wx ∧
    Bx wx w.heap.size (.int .i64 d.k) (.int .i64 d.n) (.slice Ab nb cb) (.slice An nn cn) (.slice Ap p.len cp) ∧ One wx (w.heap.size + 1) 3 (.int .i64 st) ∧ One wx (w.heap.size + 1 + 1) 4 (.bool false))
  case first =>
    by_cases hvc : vc = 0
    · subst hvc
      obtain rfl : vi = 0 := by
        rcases valF_cases d p with ⟨cd, ix, hcd, h⟩ | h
        · have h' := HVF.out; rw [h] at h'; cases h'; exact absurd rfl hcd
        · have h' := HVF.out; rw [h] at h'; cases h'; rfl
      obtain ⟨q0, q1, q2, q3, q4⟩ := HX4.out.cells
      go_wp2_with fail
      refine (nodes_calls (most := 600) (HV.out.on HB4.out) HM.out.nd HM.out.fp HM.out.pl (by omega)).mono ?_
      rintro e w5 ⟨A7, c7, A8, c8, cs7, rfl, ho7, hc7, ho8, hok, hb5⟩
      rw [walk_nodes HVF.out] at ho7 hc7 ho8 hok ⊢
      have HRN := Lib.hid (show RdN w4 w5 (walkV d p) A7 A8 c7 c8 from ⟨cs7, ho7, hc7, ho8, hok, hb5⟩)
      have HB5 := Lib.hid hb5
      have o5 := HL4.out.on hb5
      have o6 := HP4.out.on hb5
      have HO5 := Lib.hid o5
      have HO6 := Lib.hid o6
      have c5 := o5.cell
      have c6 := o6.cell
      have f5 := o5.free 0
      have f6 := o6.free 0
      clear ho7 hc7 ho8 hok hb5 o5 o6 q0 q1 q2 q3 q4
      go_wp2_with fail
      go_meet
      have hz5 := HB5.out.size
      refine ⟨A7, c7, A8, c8, (HO5.out.set _).far (by omega), (HO6.out.far (by omega)).set _, ?_, ?_, ((HX4.out.on HB5.out).far (by omega)).far (by omega), ((HN4.out.on HB5.out).far (by omega)).far (by omega), ((HR4.out.on HB5.out).far (by omega)).far (by omega)⟩
      · have h := HRN.out.put HO5.out HO6.out (by omega) (by omega) (.slice A7 (walkV d p).length c7) (.slice A8 (walkV d p).length c8)
        simpa using h
      · exact ((chain HB4.out HB5.out).setCell (by show w.heap.size ≤ w2.heap.size; omega) _).setCell (by show w.heap.size ≤ w2.heap.size + 1; omega) _
    · have hc' : (vc == 0) = false := by simpa using hvc
      have HE := Lib.hid (show walkV d p = [] by unfold walkV; rw [HVF.out, if_neg hvc])
      clear hvc
      go_wp2_with fail
      go_meet
      rw [HE.out]
      exact ⟨none, 0, none, 0, HL4.out, HP4.out, LRd.nil _ _ _ _, HB4.out, HX4.out, HN4.out, HR4.out⟩
  case rest =>
    obtain ⟨A7, c7, A8, c8, h5, h6, hlr, hbc, hx, hn, hr⟩ := hcut
    have HLR := Lib.hid hlr
    have HBC := Lib.hid hbc
    have hw : Below wc.heap.size wc (wc.alloc (.cells #[.int .i64 0] 3)) := bel1 _ _
    have HO7 := Lib.hid (One.new wc 3 (.int .i64 0))
    have HX7 := Lib.hid (hx.on hw)
    have HN7 := Lib.hid (hn.on hw)
    have HR7 := Lib.hid (hr.on hw)
    have H57 := Lib.hid (h5.on hw)
    have H67 := Lib.hid (h6.on hw)
    have HB7 := Lib.hid (chain hbc hw)
    have hzc : w2.heap.size + 1 < wc.heap.size := h6.lt
    obtain ⟨q0, q1, q2, q3, q4⟩ := HX7.out.cells
    clear hlr hbc hx hn hr h5 h6 hw HX4 HN4 HR4 HB4 HL4 HP4 hfld
    go_wp2_with (go_at_call 33; refine (walkW_calls HM.out (HV.out.on HB7.out)).mono ?_; rintro e w8 ⟨rfl, hb8, a8, b8, c8', d8, e8, hbx8, hv8⟩)
    rw [alloc_size] at hbx8
    have hz8 : wc.heap.size + 1 < w8.heap.size := hbx8.lt
    have HX8 := Lib.hid hbx8
    have HB8 := Lib.hid (show Below (wc.heap.size + 1) (wc.alloc (.cells #[.int .i64 0] 3)) w8 by have h := hb8; rw [alloc_size] at h; exact h)
    have HO8 := Lib.hid (HO7.out.on hb8)
    have HBW := Lib.hid (chain HB7.out hb8)
    have HM8 : Hid (VInS w8 (Sm (fun k _ => k = wc.heap.size) w8) (.agg #[a8, b8, c8', d8, e8]) d p) := Lib.hid (hv8.ofM fun b t hb h => by
      simp only [alloc_size] at hb
      omega)
    clear q0 q1 q2 q3 q4 hb8 hbx8 hv8
    have HLR8 := Lib.hid ((HLR.out.low (bel1 _ (.cells #[.int .i64 0] 3))).low (HB8.out.mono (Nat.le_succ _)))
    have H58 := Lib.hid (H57.out.below HB8.out (by omega))
    have H68 := Lib.hid (H67.out.below HB8.out (by omega))
    have HN8 := Lib.hid (HN7.out.below HB8.out (by omega))
    have HR8 := Lib.hid (HR7.out.below HB8.out (by omega))
    clear HX7 HN7 HR7 H57 H67 HB7 HO7 HLR HBC
    refine (wpIn_wide (n := 9)).1 ?_
    refine rangeP (F := Fence.wide) (n := 9) rfl (by omega) (gf := 59) (lb := #[.pointer (some ⟨wc.heap.size + 1, 0, none⟩)]) rfl trivial (enters_of Try.func59 (by kernel_rfl) rfl)
      (walk_seq (M := fun k _ => k = wc.heap.size) HM.out (fun k hk h => by omega) (fun k hk h => by omega) HX8.out HM8.out 8)
      (fun h k => h.trans k) (fun W l o o' _ h ho => KpM.putObj W l o o' h ho) (Below.refl _ _) (fun _ => rfl)
      (WI w8 wc.heap.size) (fun _ W => One W (w.heap.size + 1 + 1) 4 (.bool true) ∧ Below w.heap.size w W) (WI.own (by omega))
      (fun s W W' row h hgr hr => ⟨h.1.kp (kp0_grown hgr (fun r e => (hr r e).2)) id, h.2.grown hgr h.2.size (fun r e => by have := (hr r e).1; omega)⟩) ⟨HO8.out, Below.refl _ _⟩
      (fun pre x a' W => ∃ gx, a' = { tmps := #[.agg #[.int .i64 d.k, .int .i64 d.n, .slice Ab nb cb, .slice An nn cn, .slice Ap p.len cp], .int .i64 st, .pointer (some ⟨w.heap.size, 0, none⟩), .pointer (some ⟨w.heap.size + 1, 0, none⟩), .pointer (some ⟨w.heap.size + 1 + 1, 0, none⟩), .pointer (some ⟨w2.heap.size, 0, none⟩), .pointer (some ⟨w2.heap.size + 1, 0, none⟩), .pointer (some ⟨wc.heap.size, 0, none⟩), .slice x.A x.n x.c, .pointer (some ⟨gx, 0, none⟩), .bool true, .bool false, u12, u13, u14, u15, u16, u17, u18, u19, u20, .agg #[.int .i64 d.k, .int .i64 d.n, .slice Ab nb cb, .slice An nn cn, .slice Ap p.len cp], .func (.func 59) #[] #[.pointer (some ⟨wc.heap.size + 1, 0, none⟩)], .slice x.A x.n x.c, x.v, undef, undef, undef, undef, undef, undef, undef, undef, undef, undef, undef, undef, undef, undef, undef, undef, undef, undef, undef, undef, undef, undef, undef, undef, undef, undef, undef, undef, undef, undef, undef], defers := [] } ∧ Bx W gx (.int .i64 x.d.k) (.int .i64 x.d.n) (.slice x.Ab x.nb x.cb) (.slice x.An x.nn x.cn) (.slice x.Ap x.np x.cp) ∧ WPre (walkV d p) w8.heap.size pre x W)
      (fun pre x a' => fun s W W' row h hgr hr => by
        obtain ⟨gx, h1, h2, h3⟩ := h
        exact ⟨gx, h1, h2.kp (kp0_grown hgr (fun r e => (hr r e).2)) id, wpre_own _ _ _ pre x () W W' row h3 hgr hr⟩) ?assign ?body ?done ?stop
    case assign =>
      intro l pre x W K hi hp hsz hK
      simp only [Wk.encs, Wk.v]
      gi_wp2_with fail
      exact hK _ _ (walk_keeps (bel1 _ _)) (KpM.below (bel1 _ _)) ⟨hi.1.on (bel1 _ _), hi.2.alloc (Nat.le_trans (by omega) hi.2.size) _⟩ ⟨W.heap.size, rfl, Bx.new W _ _ _ _ _, own_below hp.1 (bel1 _ _) (Nat.le_refl _), hp.2.1.on (bel1 _ _), hp.2.2⟩
    case body =>
      rintro l pre x a' W hi ⟨gx, rfl, hbx, hp⟩
      obtain ⟨hown, hvx, hpre⟩ := hp
      have hg : (walkV d p)[pre.length]? = some x.ghost := by
        obtain ⟨t, ht⟩ := hpre
        rw [← ht]
        simp
      obtain ⟨⟨b7, o7, Ab7, nb7, cb7, An7, nn7, cn7, Ap7, cp7, hA7, hlt7, l0, l1, l2, l3, l4, hvl, hok⟩, b6, o6, A6, c6, hA6, hlt6, p6, hrp⟩ := (HLR8.out.low hi.2) pre.length x.ghost hg
      subst hA7 hA6
      have hlen : pre.length < (walkV d p).length := (List.getElem?_eq_some_iff.1 hg).1
      obtain ⟨ii, hii⟩ : ∃ ii, pre.length = ii := ⟨_, rfl⟩
      obtain ⟨LL, hLL⟩ : ∃ LL, (walkV d p).length = LL := ⟨_, rfl⟩
      have hL600 := walkV_len d p
      have HHI := Lib.hid hi
      have HI1 := Lib.hid hi.1
      have HVX := Lib.hid hvx
      have HVL := Lib.hid hvl
      have HOK := Lib.hid hok
      have HRX := Lib.hid (Rd.of_own hown)
      have HRP := Lib.hid hrp
      have hzW : wc.heap.size ≤ W.heap.size := Nat.le_trans (by omega) hi.2.size
      have k7 := fun y : Abv W => Abv.cell hi.1.cell y
      have k5 := fun y : Abv W => Abv.cell (H58.out.below hi.2 (by omega)).cell y
      have k6 := fun y : Abv W => Abv.cell (H68.out.below hi.2 (by omega)).cell y
      have k3 := fun y : Abv W => Abv.cell (HN8.out.below hi.2 (by omega)).cell y
      obtain ⟨x0, x1, x2, x3, x4⟩ := hbx.cells
      have kx0 := fun y : Abv W => Abv.cell x0 y
      have kx1 := fun y : Abv W => Abv.cell x1 y
      have kx2 := fun y : Abv W => Abv.cell x2 y
      have kx3 := fun y : Abv W => Abv.cell x3 y
      have kx4 := fun y : Abv W => Abv.cell x4 y
      have kl0 := fun y : Abv W => Abv.cell l0 y
      have kl1 := fun y : Abv W => Abv.cell l1 y
      have kl2 := fun y : Abv W => Abv.cell l2 y
      have kl3 := fun y : Abv W => Abv.cell l3 y
      have kl4 := fun y : Abv W => Abv.cell l4 y
      have kp6 := fun y : Abv W => Abv.cell p6 y
      have hnx : x.np = x.p.len := by
        obtain ⟨sb, sn, sp, e, Ab', nb', cb', An', nn', cn', Ap', cp', rfl, rfl, rfl, _⟩ := hvx
        simp only [Wk.v, Value.agg.injEq, Array.mk.injEq, List.cons.injEq, Value.slice.injEq] at e
        omega
      have hxn : x.path.length = x.n := by have := hown.1; rw [iv_len] at this; omega
      rw [hii] at hlen k7 kl0 kl1 kl2 kl3 kl4 kp6
      rw [hLL] at hlen hL600 k5 k6
      have HII := Lib.hid hii
      have HLL := Lib.hid hLL
      have hli : (ii : Int) < (LL : Int) := by omega
      have hl0 : (0 : Int) ≤ (ii : Int) := by omega
      have hld : decide (LL ≤ ii) = false := by simp; omega
      clear hown hvx hpre hg hvl hok hrp hi hbx x0 x1 x2 x3 x4 l0 l1 l2 l3 l4 p6 hii hLL
      have hgg : x.ghost = (x.path, x.d, x.p) := rfl
      rw [hgg] at kl0 kl1 kl4 kp6 HVL HOK HRP
      simp only at kl0 kl1 kl4 kp6 HVL HOK HRP
      rw [hxn] at kp6 HRP
      rw [hnx] at kx4
      have HVX' : VIn W W.heap.size (.agg #[.int .i64 x.d.k, .int .i64 x.d.n, .slice x.Ab x.nb x.cb, .slice x.An x.nn x.cn, .slice x.Ap x.p.len x.cp]) x.d x.p := by have h := HVX.out; unfold Wk.v at h; rw [hnx] at h; exact h
      have hxs : x.n ≤ 140737488355328 := by have := HOK.out.2.2.2; simp only at this; omega
      gi_wp2_with fail
      refine region_above_round (F := Fence.wide) (r := l) rfl rfl (by kernel_rfl) (by kernel_rfl) ?_
      repeat (
        refine wpQuietIn_step (fun _ _ _ _ => trivial) (fun K hK => ?_)
        go_simp
        first
          | (refine hK _ ?_; clear hK K)
          | (apply Exists.intro
             refine ⟨fun _ => ?_, hK _ ?_⟩
             first
               | (gi_at_call 34; exact ints_above _ HRX.out HRP.out hzW hxs)
               | (gi_at_call 21; exact same_above _ HVX' HVL.out hzW HOK.out.2.2.1 HOK.out.2.1 HOK.out.1.2.2.1)
             clear hK K))
      refine wpQuietIn_nil ?_
      intro W9 hw9
      obtain ⟨y, rfl⟩ := hw9
      have hby := y.b
      have y7 := k7 y
      have y3 := k3 y
      obtain ⟨W9, hW9⟩ : ∃ W9, y.w = W9 := ⟨_, rfl⟩
      rw [hW9] at hby y7 y3 ⊢
      have HBY := Lib.hid hby
      have y7f := (HI1.out.on hby).free 0
      clear hW9 kx0 kx1 kx2 kx3 kx4 kl0 kl1 kl2 kl3 kl4 kp6 k7 k5 k6 k3 y hby HVX'
      by_cases hst : (ii : Int) = st
      · have hst' : ((ii : Int) == st) = true := by simpa using hst
        have y4c := (HR8.out.below HHI.out.2 (by omega)).on HBY.out
        have HY4 := Lib.hid y4c
        have y4 := y4c.cell
        have y4f := y4c.free 0
        clear hst y4c
        gi_wp2_with fail
        refine ⟨walk_put HBY.out (by omega), .inr ⟨rfl, HY4.out.set _, ?_⟩⟩
        exact (HBW.out.trans ((HHI.out.2.trans (HBY.out.mono hzW)).mono (by omega))).setCell (p := ⟨w.heap.size + 1 + 1, 0, none⟩) (by show w.heap.size ≤ w.heap.size + 1 + 1; omega) _
      · have hst' : ((ii : Int) == st) = false := by simpa using hst
        clear hst
        gi_wp2_with fail
        have hww : wc.heap.size ≤ w8.heap.size := by omega
        refine ⟨walk_put HBY.out (by omega), .inl ⟨rfl, walk_kp HBY.out, ?_, ?_⟩⟩
        · have h := (HI1.out.on HBY.out).set (.int .i64 ((ii : Int) + 1))
          rw [List.length_append, HII.out]
          exact h
        · exact (HHI.out.2.trans (HBY.out.mono hzW)).setCell (p := ⟨wc.heap.size, 0, none⟩) (Nat.le_refl _) _
    case done =>
      rintro D xs W hD hS hi hK
      obtain ⟨hi1, hi2⟩ := hi
      have hlen : xs.length = (walkV d p).length := by rw [← hS, List.length_map]
      rw [hlen] at hi1
      have k7 := hi1.cell
      have k5 := (H58.out.below hi2 (by omega)).cell
      have hr4 := HR8.out.below hi2 (by omega)
      have HR4 := Lib.hid hr4
      have k4 := hr4.cell
      have k4f := hr4.free 0
      have HKK := Lib.hid hK
      have HI2 := Lib.hid hi2
      clear hi1 hi2 hr4 hK hS hlen
      go_wp2_with fail
      have HKD := Lib.hid (show (W.setCell ⟨w.heap.size + 1 + 1, 0, none⟩ (.bool true)).heap[D]? = some (.deferred (some [])) by
        rw [Below.heap_setCell _ _ _ _ (by show D ≠ w.heap.size + 1 + 1; omega)]; exact HKK.out)
      have hrc := ((HR4.out.set (.bool true)).kp (putObj_other (o' := .deferred none) HKD.out rfl) id).cell
      refine postM_mark (v := .bool true) rfl HKD.out (by simp [results, Try.results10, go_sem, hrc]) ?_
      exact ⟨rfl, below_obj ((HBW.out.trans (HI2.out.mono (by omega))).setCell (p := ⟨w.heap.size + 1 + 1, 0, none⟩) (by show w.heap.size ≤ w.heap.size + 1 + 1; omega) _) (Nat.le_refl _) (by omega)⟩
    case stop =>
      rintro D pre W hD hS ⟨h1, h2⟩ hK
      have H1 := Lib.hid h1
      have H2 := Lib.hid h2
      have HKD := Lib.hid hK
      clear h1 h2 hK hS
      gi_wp2_with fail
      have hrc := (H1.out.kp (putObj_other (o' := .deferred none) HKD.out rfl) id).cell
      refine postM_mark (v := .bool true) rfl HKD.out (by simp [results, Try.results10, go_sem, hrc]) ?_
      exact ⟨rfl, below_obj H2.out (Nat.le_refl _) (by omega)⟩
end Go.Proofs.Ytolognhjdmkohaa
