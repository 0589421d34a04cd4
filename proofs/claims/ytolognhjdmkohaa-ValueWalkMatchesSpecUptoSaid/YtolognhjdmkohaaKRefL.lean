/-
  The reference: the contract of Named.
-/
import Derived.Test.YtolognhjdmkohaaKRefH
import Derived.Test.YtolognhjdmkohaaJ19
import Derived.Test.YtolognhjdmkohaaKValFb
import Derived.Test.YtolognhjdmkohaaKPathM
import Derived.Deep.DeepCutAuto
import Derived.BigQuiet
namespace Go.Proofs.Ytolognhjdmkohaa
open Go.RowKit
set_option linter.unusedVariables false
set_option linter.unusedSimpArgs false

theorem part_ok {w : World} {v : Value} {d d' : Nd} {p p' : VF} {A : Option Addr} {n c : Nat} {path : List Int} (hv : VIn w w.heap.size v d p) (hpl : p.len ≤ 1048576) (hfp : Fits p) (hr : Rd w w.heap.size 1 A n (iv path)) (hn : n ≤ 1048576) (hp : pathV d p path 0 = .inr (d', p')) :
    Calls Try.prog 26 #[v, .slice A n c] w fun e w' => ∃ Ab nb cb An nn cn Ap cp, e = .returned (.tuple #[.agg #[.int .i64 d'.k, .int .i64 d'.n, .slice Ab nb cb, .slice An nn cn, .slice Ap p'.len cp], .int .i64 (-1)]) ∧ Rd w w.heap.size 1 An nn (sv d'.ns) ∧ Below w.heap.size w w' := by
  refine (part_calls hv hpl hfp hr hn).mono ?_
  rintro e w' ⟨hb, ⟨i, h, _⟩ | ⟨d1, p1, v1, h, rfl, sb, sn, sp, rfl, Ab, nb, cb, An, nn, cn, Ap, cp, rfl, rfl, rfl, _, _, _, _, _, hrn, _⟩⟩
  · rw [hp] at h; cases h
  · rw [hp] at h
    injection h with h
    injection h with h1 h2
    subst h1 h2
    exact ⟨Ab, nb, cb, An, nn, cn, Ap, cp, rfl, hrn, hb⟩
theorem rd_names5 {w : World} {B n g : Nat} {A : Option Addr} {ns : List (List UInt8)} (h : Rd w B 1 A n (sv ns)) (hz : Bx w g (.int .i64 0) (.int .i64 0) (.slice none 0 0) (.slice none 0 0) (.slice none 0 0)) (x0 x1 x2 x3 x4 : Value) :
    Rd (((((w.setCell ⟨g, 0, none⟩ x0).setCell ⟨g, 1, none⟩ x1).setCell ⟨g, 2, none⟩ x2).setCell ⟨g, 3, none⟩ x3).setCell ⟨g, 4, none⟩ x4) B 1 A n (sv ns) := by
  refine ⟨h.1, fun hn => ?_⟩
  obtain ⟨b, o, e, hb, hc⟩ := h.2 hn
  have hne : b ≠ g := by
    rintro rfl
    obtain ⟨b', o', t, e', _, _, ht⟩ := sv_at h (show 0 < n from hn)
    rw [e] at e'
    cases e'
    rw [cell_of_row w b _ _ _ _ hz] at ht
    rcases o with _ | _ | _ | _ | _ | o <;> simp at ht
  refine ⟨b, o, e, hb, fun j u hu => ?_⟩
  rw [World.cell?_setCell_far _ _ _ _ (by exact fun h => hne h.symm), World.cell?_setCell_far _ _ _ _ (by exact fun h => hne h.symm), World.cell?_setCell_far _ _ _ _ (by exact fun h => hne h.symm), World.cell?_setCell_far _ _ _ _ (by exact fun h => hne h.symm), World.cell?_setCell_far _ _ _ _ (by exact fun h => hne h.symm)]
  exact hc j u hu
/-- paths collected so far -/
def NmdRel (w2 : World) (d : Nd) (p : VF) (name : List UInt8) (L : List Itm) (o k : Value) (wr : World) : Prop :=
  ∃ (i : Nat) (A : Option Addr) (c : Nat) (vs : List Value), k = .int .i64 (i : Int) ∧ i ≤ L.length ∧ o = .slice A (selP d p name (L.take i)).length c ∧ wr.ownsRow w2.heap.size 46 1 (.slice A (selP d p name (L.take i)).length c) (selP d p name (L.take i)).length vs ∧ vs.length = (selP d p name (L.take i)).length ∧
    (∀ (j : Nat) (b : List Int), (selP d p name (L.take i))[j]? = some b → ∃ A' c', vs[j]? = some (.slice A' b.length c') ∧ Rd w2 w2.heap.size 1 A' b.length (iv b)) ∧ Below w2.heap.size w2 wr
theorem sel_step {d : Nd} {p : VF} {name : List UInt8} {L : List Itm} {i : Nat} {g : Itm} (hg : L[i]? = some g) : selP d p name (L.take (i + 1)) = selP d p name (L.take i) ++ (if hitB d p name g.1 = true then [g.1] else []) := by
  rw [List.take_add_one, hg, Option.toList_some, selP_snoc]
theorem els_snoc {w2 : World} {S : List (List Int)} {vs : List Value} {x : List Int} {A' : Option Addr} {c' : Nat} (hvl : vs.length = S.length) (hels : ∀ (j : Nat) (b : List Int), S[j]? = some b → ∃ A' c', vs[j]? = some (.slice A' b.length c') ∧ Rd w2 w2.heap.size 1 A' b.length (iv b)) (hx : Rd w2 w2.heap.size 1 A' x.length (iv x)) :
    ∀ (j : Nat) (b : List Int), (S ++ [x])[j]? = some b → ∃ A'' c'', (vs ++ [.slice A' x.length c'])[j]? = some (.slice A'' b.length c'') ∧ Rd w2 w2.heap.size 1 A'' b.length (iv b) := by
  intro j b hj
  rcases Nat.lt_or_ge j S.length with hlt | hge
  · rw [List.getElem?_append_left hlt] at hj
    obtain ⟨A2, c2, hv, ho⟩ := hels j b hj
    exact ⟨A2, c2, by rw [List.getElem?_append_left (by omega)]; exact hv, ho⟩
  · rw [List.getElem?_append_right hge] at hj
    obtain rfl : j = S.length := by
      rcases Nat.eq_zero_or_pos (j - S.length) with h0 | h0
      · omega
      · rw [List.getElem?_eq_none (by simp; omega)] at hj; cases hj
    simp at hj
    subst hj
    exact ⟨A', c', by rw [List.getElem?_append_right (by omega), hvl]; simp, hx⟩
theorem walk_nodes {d : Nd} {p : VF} (hv : valF d p = (0, 0)) : (expL 600 ([], d, p)).take 600 = walkV d p := by
  obtain ⟨m, h1, _⟩ := valF_zero hv
  have h2 := ((scan_root 600 (Nat.le_refl _) d p).2 m h1).2
  have h3 := walkL_len h1
  rw [h2, List.take_of_length_le h3]
  unfold walkV
  rw [hv, if_pos rfl]
set_option maxRecDepth 100000 in
set_option maxHeartbeats 4000000 in
theorem named_calls {w : World} {v : Value} {d : Nd} {p : VF} {s : ByteArray} (hv : VIn w w.heap.size v d p) (hm : Mod d p) (hvf : valF d p = (0, 0)) :
    Calls Try.prog 31 #[v, .string s] w fun e w' => ∃ A n c, e = .returned (.slice A n c) ∧ Lss w' w'.heap.size A n (findV d p s.data.toList) ∧ Below w.heap.size w w' := by
  have HV := Lib.hid hv
  have HM := Lib.hid hm
  have HVF := Lib.hid hvf
  obtain ⟨sb, sn, sp, rfl, hd0⟩ := hv
  obtain ⟨Ab, nb, cb, An, nn, cn, Ap, cp, rfl, rfl, rfl, _⟩ := hd0
  clear hm hvf
  go_enter Try.func31, Try.ntmps31
  go_wp2_with fail
  have HB1 := Lib.hid (bel1 w (.cells #[.int .i64 d.k, .int .i64 d.n, .slice Ab nb cb, .slice An nn cn, .slice Ap p.len cp] 26))
  refine (nodes_calls (most := 600) (HV.out.on HB1.out) HM.out.nd HM.out.fp HM.out.pl (by omega)).mono ?_
  rintro e w2 ⟨A7, c7, A8, c8, cs7, rfl, ho7, hc7, ho8, hok, hb2⟩
  obtain ⟨L, hL⟩ : ∃ L, (expL 600 ([], d, p)).take 600 = L := ⟨_, rfl⟩
  have hll : L.length ≤ 600 := by rw [← hL, List.length_take]; omega
  have HLW := Lib.hid (show L = walkV d p by rw [← hL]; exact walk_nodes HVF.out)
  rw [hL] at ho7 hc7 ho8 hok ⊢
  have HRN := Lib.hid (show RdN (w.alloc (.cells #[.int .i64 d.k, .int .i64 d.n, .slice Ab nb cb, .slice An nn cn, .slice Ap p.len cp] 26)) w2 L A7 A8 c7 c8 from ⟨cs7, ho7, hc7, ho8, hok, hb2⟩)
  have HX2 := Lib.hid ((Bx.new w (.int .i64 d.k) (.int .i64 d.n) (.slice Ab nb cb) (.slice An nn cn) (.slice Ap p.len cp)).on hb2)
  have HB2 := Lib.hid (chain HB1.out hb2)
  clear hL ho7 hc7 ho8 hok hb2
  go_wp2_with fail
  go_loopw [7, 8] (NmdRel w2 d p s.data.toList L) (fun _ k _ => L.length - (intOf k).toNat)
  case atStart => exact ⟨0, none, 0, [], rfl, Nat.zero_le _, rfl, World.ownsRow_nil _ _ _ _, rfl, fun j b h => by simp [selP] at h, Below.refl _ _⟩
  case round =>
    obtain ⟨i, A, c, vs, rfl, hi, rfl, hrow, hvl, hels, hbr⟩ := hrel
    obtain ⟨S, hS⟩ : ∃ S, selP d p s.data.toList (L.take i) = S := ⟨_, rfl⟩
    rw [hS] at hrow hvl hels
    have hSl : S.length ≤ 600 := by rw [← hS]; have := selP_len d p s.data.toList (L.take i); rw [List.length_take] at this; omega
    rw [hS]
    have HS := Lib.hid hS
    have HRW := Lib.hid hrow
    have HVL := Lib.hid hvl
    have HEL := Lib.hid hels
    have HBR := Lib.hid hbr
    have hz2 : w2.heap.size ≤ wr.heap.size := hbr.size
    clear hS hrow hvl hels hbr
    by_cases hlt : i < L.length
    · obtain ⟨g, hg⟩ : ∃ g, L[i]? = some g := ⟨_, List.getElem?_eq_getElem hlt⟩
      have HST := Lib.hid (sel_step (d := d) (p := p) (name := s.data.toList) hg)
      have hmem : g ∈ walkV d p := by rw [← HLW.out]; exact List.mem_of_getElem? hg
      have hli : (i : Int) < (L.length : Int) := by omega
      have h0 : (0 : Int) ≤ (i : Int) := by omega
      obtain ⟨b8, o8, Ax, cx, hA8, hcp, hrd, hcap⟩ := HRN.out.path HBR.out hg
      obtain ⟨b8', o8', Ax', cx', hA8', hcp', hrd', _⟩ := HRN.out.path (Below.refl _ _) hg
      subst hA8
      cases hA8'
      have hcpp := (HBR.out.cell (p := ⟨b8, o8 + i, none⟩) (by have := HRN.out; obtain ⟨_, _, _, ⟨vs, ho, _⟩, _⟩ := this; obtain ⟨b, o, e, hb, _⟩ := (Rd.of_own ho).2 (by simp; omega); cases e; exact hb)).trans hcp'
      rw [hcp] at hcpp
      cases hcpp
      have HRD' := Lib.hid hrd'
      have HRD := Lib.hid hrd
      clear hrd hrd' hcp'
      rcases walkV_entry hmem with hroot | hent
      · have hp0 : g.1 = [] := congrArg Prod.fst hroot
        have hn0 : g.1.length = 0 := by rw [hp0]; rfl
        have HSEL := Lib.hid (show selP d p s.data.toList (L.take (i + 1)) = S by rw [HST.out, HS.out, hp0, hitB_nil]; simp)
        rw [hn0] at hcp hcap
        clear hroot hmem hp0 hg
        go_wp2_with fail
        go_roundw
        case rel => exact ⟨i + 1, A, c, vs, by go_num, by omega, by rw [HSEL.out], by rw [HSEL.out]; exact HRW.out, by rw [HSEL.out]; exact HVL.out, by rw [HSEL.out]; exact HEL.out, HBR.out⟩
        case measure => simp [intOf]; omega
      · obtain ⟨hpx, q, k, d', p', hq, hpq, hk, hnc⟩ := hent
        obtain ⟨m, hm⟩ : ∃ m, q.length = m := ⟨_, rfl⟩
        have hxm : g.1.length = m + 1 := by rw [show g.1 = _ from hq, List.length_append, hm]; rfl
        have hm10 : m ≤ 1048576 := by have := pathV_ht q d p 0 d' p' hpq; have := valF_ht (d := d) (p := p) (by rw [HVF.out]); omega
        rw [hxm] at hcp hcap HRD HRD'
        obtain ⟨bA, oA, kx, hA, hbA, hkx, hck⟩ := iv_at HRD.out (show m < m + 1 by omega)
        have hkk : kx = (k : Int) := by
          rw [show g.1 = _ from hq, List.getElem?_append_right (by omega), hm] at hkx
          simpa using hkx.symm
        subst hkk
        have HRQ := Lib.hid (show Rd wr wr.heap.size 1 Ax m (iv q) by
          have := HRD.out.take (m := m) (by omega)
          rw [show g.1 = q ++ [(k : Int)] from hq] at this
          simpa [iv, ← hm] using this)
        have HQ := Lib.hid hq
        have HPQ := Lib.hid hpq
        have HNC := Lib.hid hnc
        have HXR := Lib.hid (HX2.out.on HBR.out)
        obtain ⟨x0, x1, x2, x3, x4⟩ := HXR.out.cells
        have y0 := fun ob => cell_up (o := ob) x0
        have y1 := fun ob => cell_up (o := ob) x1
        have y2 := fun ob => cell_up (o := ob) x2
        have y3 := fun ob => cell_up (o := ob) x3
        have y4 := fun ob => cell_up (o := ob) x4
        have HVR := Lib.hid (HV.out.on (chain HB2.out HBR.out))
        subst hA
        clear hkx hq hpq hnc hpx hmem hg
        have hwm : IntKind.i64.wrap (m : Int) = (m : Int) := by simp [IntKind.wrap, IntKind.bits, IntKind.signed]; omega
        have hm0 : (0 : Int) ≤ (m : Int) := by omega
        have hmc : (m : Int) ≤ (cx : Int) := by omega
        go_upto_region 8 with (fail)
        have hbd : Below wr.heap.size wr wr.drew := (Below.refl _ _).drew
        have HBD := Lib.hid hbd
        have HVD := Lib.hid (HVR.out.on hbd)
        have HRD1 := Lib.hid (HRQ.out.on hbd)
        have HVZ := Lib.hid (HVR.out.on (bel_up hbd (.cells #[.int .i64 0, .int .i64 0, .slice none 0 0, .slice none 0 0, .slice none 0 0] 26)))
        have HRZ := Lib.hid (HRQ.out.on (bel_up hbd (.cells #[.int .i64 0, .int .i64 0, .slice none 0 0, .slice none 0 0, .slice none 0 0] 26)))
        clear hbd
        go_cut [10, 11] from 17 to 60 (fun a b wx => ∃ gx Ab nb cb An nn cn Ap cp, a = .pointer (some ⟨gx, 0, none⟩) ∧ b = .int .i64 (-1) ∧ Bx wx gx (.int .i64 d'.k) (.int .i64 d'.n) (.slice Ab nb cb) (.slice An nn cn) (.slice Ap p'.len cp) ∧ Rd wx wx.heap.size 1 An nn (sv d'.ns) ∧ Below wr.heap.size wr wx)
        case first =>
          go_region_with (go_at_call 26; refine (part_ok (path := q) (by first | exact HVD.out | exact HVZ.out) HM.out.pl HM.out.fp (by first | exact HRD1.out | exact HRZ.out) hm10 HPQ.out).mono ?_; rintro e w6 ⟨Ab6, nb6, cb6, An6, nn6, cn6, Ap6, cp6, rfl, hrn6, hb6⟩; have HB6 : Hid (Below wr.heap.size wr w6) := Lib.hid (by first | exact chain HBD.out hb6 | exact chain (bel_up HBD.out _) hb6); have HRN6 := Lib.hid (hrn6.on hb6); (try (have HZ6 : Hid (Bx w6 wr.heap.size (.int .i64 0) (.int .i64 0) (.slice none 0 0) (.slice none 0 0) (.slice none 0 0)) := Lib.hid (Bx.on (Bx.new wr.drew _ _ _ _ _) hb6); obtain ⟨z0, z1, z2, z3, z4⟩ := HZ6.out.cells; have zf := HZ6.out.free)); clear hrn6 hb6)
          all_goals go_wp2_with fail
          all_goals go_meet
          all_goals first
            | (have hzz := HZ6; exact ⟨wr.heap.size, Ab6, nb6, cb6, An6, nn6, cn6, Ap6, cp6, rfl, rfl, HZ6.out.set5 _ _ _ _ _, (by have h := rd_names5 HRN6.out HZ6.out (.int .i64 d'.k) (.int .i64 d'.n) (.slice Ab6 nb6 cb6) (.slice An6 nn6 cn6) (.slice Ap6 p'.len cp6); simpa using h), below5 HB6.out (Nat.le_refl _) _ _ _ _ _⟩)
            | exact ⟨w6.heap.size, Ab6, nb6, cb6, An6, nn6, cn6, Ap6, cp6, rfl, rfl, Bx.new w6 _ _ _ _ _, HRN6.out.on (bel1 w6 _), bel_up HB6.out _⟩
        case rest =>
          obtain ⟨gx, Ab6, nb6, cb6, An6, nn6, cn6, Ap6, cp6, rfl, rfl, hbx, hrn, hbw⟩ := hcut
          have HBW := Lib.hid hbw
          have HRN6 := Lib.hid hrn
          obtain ⟨u0, _, _, u3, _⟩ := hbx.cells
          have u5 := (hbw.cell (p := ⟨bA, oA + m, none⟩) hbA).trans hck
          clear hbx hrn hbw x0 x1 x2 x3 x4 y0 y1 y2 y3 y4
          go_upto_region 9 with (fail)
          by_cases hk4 : d'.k = 4
          · have hnl : nn6 = p'.len := by have := HRN6.out.len; rw [sv_len] at this; rw [← this]; exact node_names HNC.out hk4
            obtain ⟨bn, on, t, rfl, hbn, hnt, hct⟩ := sv_at HRN6.out (show k < nn6 by omega)
            have g1 : (d'.k == 4) = true := by simp [hk4]
            have hkn : (k : Int) < (nn6 : Int) := by omega
            have hk0 : (0 : Int) ≤ (k : Int) := by omega
            have hmm : (m : Int) < (m : Int) + 1 := by omega
            have HNT := Lib.hid hnt
            clear hnt
            rw [hk4] at u0
            go_quiet (fail)
            have HB8 := Lib.hid (show Below wr.heap.size wr (wc.drewN nq) from chain HBW.out (below_drewN _ _))
            obtain ⟨W8, hW8⟩ : ∃ W8, wc.drewN nq = W8 := ⟨_, rfl⟩
            rw [hW8] at HB8 ⊢
            clear hW8 u0 u3 u5 hct
            have hz8 : wr.heap.size ≤ W8.heap.size := HB8.out.size
            by_cases hts : t = s
            · subst hts
              have hss : (t.toList == t.toList) = true := by simp
              have hhit : hitB d p t.data.toList g.1 = true := by rw [show g.1 = q ++ [(k : Int)] from HQ.out, hitB_snoc HPQ.out, HNT.out, g1]; simp
              have HSEL := Lib.hid (show selP d p t.data.toList (L.take (i + 1)) = S ++ [g.1] by rw [HST.out, HS.out, hhit, if_pos rfl])
              have hels := els_snoc (x := g.1) (A' := some ⟨bA, oA, none⟩) (c' := cx) HVL.out HEL.out (by rw [hxm]; exact HRD'.out)
              rw [hxm] at hels
              have HELS := Lib.hid hels
              clear hels hhit
              rw [hss]
              go_wp2_with (at_builtin; first | (refine wpList_app1 _ slII rfl (.tmp 57) (.tmp 59) rfl w2.heap.size A S.length c vs rfl (own_below HRW.out HB8.out (Nat.le_refl _)) (.slice (some ⟨bA, oA, none⟩) (m + 1) cx) rfl rfl (by omega) (by omega) (B0 := w2.heap.size) (w0 := w2) (chain HBR.out HB8.out) (Nat.le_refl _) ?_); intro A9 c9 w9 hown9 hb9 hb9')
              refine ⟨⟨i + 1, A9, c9, vs ++ [.slice (some ⟨bA, oA, none⟩) (m + 1) cx], by go_num, by omega, by rw [HSEL.out, List.length_append]; rfl, by rw [HSEL.out, List.length_append]; exact hown9, by rw [HSEL.out, List.length_append, List.length_append, HVL.out]; rfl, by rw [HSEL.out]; exact HELS.out, hb9'⟩, by simp [intOf]; omega⟩
            · have hne : ¬ t.data.toList = s.data.toList := fun e => hts (by cases t; cases s; congr 1; exact Array.toList_inj.1 e)
              have hss : (t.toList == s.toList) = false := by
                rw [ByteArray.toList_eq, ByteArray.toList_eq]
                simpa using fun e => hne (by rw [e])
              have hhit : hitB d p s.data.toList g.1 = false := by
                rw [show g.1 = q ++ [(k : Int)] from HQ.out, hitB_snoc HPQ.out, HNT.out, g1]
                rw [show (some t.data.toList == some s.data.toList) = false by simpa using fun e => hne (by rw [e])]
                rfl
              have HSEL := Lib.hid (show selP d p s.data.toList (L.take (i + 1)) = S by rw [HST.out, HS.out, hhit]; simp)
              clear hhit hne
              rw [hss]
              go_wp2_with fail
              exact ⟨⟨i + 1, A, c, vs, by go_num, by omega, by rw [HSEL.out], by rw [HSEL.out]; exact own_below HRW.out HB8.out (Nat.le_refl _), by rw [HSEL.out]; exact HVL.out, by rw [HSEL.out]; exact HEL.out, chain HBR.out HB8.out⟩, by simp [intOf]; omega⟩
          · have g1 : (d'.k == 4) = false := by simp [hk4]
            have g2 : decide (d'.k = 4) = false := by simp [hk4]
            have HSEL := Lib.hid (show selP d p s.data.toList (L.take (i + 1)) = S by rw [HST.out, HS.out, HQ.out, hitB_snoc HPQ.out, g1]; simp)
            go_quiet (fail)
            go_wp2_with fail
            have HB8 := Lib.hid (show Below wr.heap.size wr (wc.drewN nq) from chain HBW.out (below_drewN _ _))
            exact ⟨⟨i + 1, A, c, vs, by go_num, by omega, by rw [HSEL.out], by rw [HSEL.out]; exact own_below HRW.out HB8.out (Nat.le_refl _), by rw [HSEL.out]; exact HVL.out, by rw [HSEL.out]; exact HEL.out, chain HBR.out HB8.out⟩, by simp [intOf]; omega⟩
    · have hge : (L.length : Int) ≤ (i : Int) := by omega
      have hi2 : L.take i = L := List.take_of_length_le (by omega)
      have HFN := Lib.hid (show S = findV d p s.data.toList by rw [← HS.out, hi2, HLW.out]; rfl)
      clear hi2
      go_wp2_with fail
      go_ret
      refine ⟨A, S.length, c, rfl, ?_, chain HB2.out HBR.out⟩
      rw [← HFN.out]
      refine ⟨vs, Rd.of_own HRW.out, HVL.out, fun j b hj => ?_⟩
      obtain ⟨A', c', e, hr⟩ := HEL.out j b hj
      have hmem : b ∈ selP d p s.data.toList (L.take i) := by rw [HS.out]; exact List.mem_of_getElem? hj
      unfold selP at hmem
      obtain ⟨h1, _⟩ := List.mem_filter.1 hmem
      obtain ⟨g, hg, rfl⟩ := List.mem_map.1 h1
      obtain ⟨_, _, _, _, hok, _⟩ := HRN.out
      have := (hok g (List.mem_of_mem_take hg)).2.2.2
      exact ⟨A', g.1.length, c', e, hr.on HBR.out, by omega⟩
end Go.Proofs.Ytolognhjdmkohaa
