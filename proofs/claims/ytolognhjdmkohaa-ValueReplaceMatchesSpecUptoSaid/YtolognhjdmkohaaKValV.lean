/-
  The walk of the reader's value: a list.
-/
import Derived.Test.YtolognhjdmkohaaJ11
import Derived.Deep.QuietTactic
import Derived.BigQuiet
import Derived.Deep.RegionLaw
import Derived.Deep.CutRange
namespace Go.Proofs.Ytolognhjdmkohaa
open Go.RowKit
set_option linter.unusedVariables false
set_option linter.unusedSimpArgs false

set_option maxRecDepth 100000 in
set_option maxHeartbeats 2000000 in
theorem rvalue_l3 {w : World} {g B f : Nat} {A : Option Addr} {n c : Nat} {bs : List UInt8} {x lev k x1 m x2 cd ix jx : Int} {s : List UInt8} (hr : Rr w g (.slice A n c) x) (hd : Rd w B 1 A n (bv bs)) (hB : B ≤ g) (hn : n ≤ 4000) (hnc : n ≤ c) (h1 : readNum bs x = (k, x1, 0, ix)) (k1 : k ≠ 1) (k2 : k ≠ 2) (h2 : readNum bs x1 = (m, x2, 0, jx)) (hlev : ¬ 10 < lev) (hm0 : ¬ m < 0) (hm : ¬ (bs.length : Int) - x2 < m) (hlev0 : 0 ≤ lev) (IH : ∀ (w : World) (x : Int), Rr w g (.slice A n c) x → Rd w B 1 A n (bv bs) → Calls Try.prog 50 #[.pointer (some ⟨g, 0, none⟩), .int .i64 (lev + 1)] w (RvEnd w g (.slice A n c) (rdV f bs x))) (hx2 : 0 ≤ x2) (hx3 : x2 ≤ 4000) :
    Calls Try.prog 50 #[.pointer (some ⟨g, 0, none⟩), .int .i64 lev] w (RvEnd w g (.slice A n c) (rdV (f + 1) bs x)) := by
  have HR := Lib.hid hr
  have HD := Lib.hid hd
  have H1 := Lib.hid h1
  have HE := Lib.hid (show rdV (f + 1) bs x = fin3 k (rdPs (rdV f bs) bs (k == 4) m.toNat x2) by
    rw [rdV_l3 h1 k1 k2 h2 (by omega)]
    cases rdPs (rdV f bs) bs (k == 4) m.toNat x2 <;> rfl)
  have HIH := Lib.hid IH
  have HDW := Lib.hid hd
  have hlt := hr.lt
  have H2 := Lib.hid h2
  have kb1 : (k == 1) = false := by simpa using k1
  have kb2 : (k == 2) = false := by simpa using k2
  have hl : bs.length = n := by have := hd.len; rw [bv_len] at this; exact this
  rw [hl] at hm
  have hsub : IntKind.i64.wrap ((n : Int) - x2) = (n : Int) - x2 := IntWalk.i64_in _ (by omega)
  have hd1 : decide ((10 : Int) < lev) = false := by simpa using hlev
  have hd2 : decide (m < (0 : Int)) = false := by simpa using hm0
  have hd3 : decide ((n : Int) - x2 < m) = false := by simpa using hm
  obtain ⟨M, hM⟩ : ∃ M : Nat, m = (M : Int) := ⟨m.toNat, by omega⟩
  subst hM
  rw [Int.toNat_natCast] at HE
  have hM4 : M ≤ 4000 := by omega
  have HL10 := Lib.hid hlev
  have HL0 := Lib.hid hlev0
  clear hl hlev hm0 hm hlev0 IH
  clear hr hd h1 h2 k1 k2
  go_enter Try.func50, Try.ntmps50
  go_wp2_with fail
  refine (rnumber_calls (bs := bs) (HR.out.alloc _) (HD.out.alloc (by omega) _) hB hn).mono ?_
  rintro e w2 ⟨hf2, hres⟩
  rw [H1.out] at hres
  rcases hres with ⟨h0, _⟩ | ⟨_, rfl, hr2⟩
  · exact absurd rfl h0
  have hf2' := (Rf.of (g := g) (bel1 w (.cells #[.int .i64 0, .int .i64 0, .slice none 0 0, .slice none 0 0, .slice none 0 0] 26))).trans hf2
  have HF2 := Lib.hid hf2'
  have HR2 := Lib.hid (hr2.alloc (.cells #[.int .i64 k, .int .i64 0, .slice none 0 0, .slice none 0 0, .slice none 0 0] 26))
  have HB2 := Lib.hid (((Bx.new w (.int .i64 0) (.int .i64 0) (.slice none 0 0) (.slice none 0 0) (.slice none 0 0)).rf hf2 (by omega)).on (bel1 _ (.cells #[.int .i64 k, .int .i64 0, .slice none 0 0, .slice none 0 0, .slice none 0 0] 26)))
  have HD2 := Lib.hid ((HD.out.rf hf2' hB hlt).alloc (by have := hf2'.size; omega) (.cells #[.int .i64 k, .int .i64 0, .slice none 0 0, .slice none 0 0, .slice none 0 0] 26))
  have hz2 : w.heap.size < w2.heap.size := by have := hf2.size; simp only [alloc_size] at this; omega
  clear hf2 hf2' hr2
  go_wp2_with fail
  refine (rnumber_calls (bs := bs) HR2.out HD2.out hB hn).mono ?_
  rintro e w3 ⟨hf3, hres⟩
  rw [H2.out] at hres
  rcases hres with ⟨h0, _⟩ | ⟨_, rfl, hr3⟩
  · exact absurd rfl h0
  have HF3 := Lib.hid ((HF2.out.alloc (.cells #[.int .i64 k, .int .i64 0, .slice none 0 0, .slice none 0 0, .slice none 0 0] 26)).trans hf3)
  have HB3 := Lib.hid ((Bx.new w2 (.int .i64 k) (.int .i64 0) (.slice none 0 0) (.slice none 0 0) (.slice none 0 0)).rf hf3 (by omega))
  have HS3 := Lib.hid (HB2.out.rf hf3 (by omega))
  have HR3 := Lib.hid hr3
  obtain ⟨c0, c1⟩ := hr3.cells
  clear hf3 hr3 HR2 HB2 HD2 HF2
  go_wp2_with fail
  go_quiet (fail)
  go_wp2_with fail
  have hz3 : w2.heap.size < w3.heap.size := HB3.out.lt
  obtain ⟨w0, hw0⟩ : ∃ w0, w3.drewN nq = w0 := ⟨_, rfl⟩
  have HST := Lib.hid (show LIn w w0 g w2.heap.size (.slice A n c) k [] .nil x2 none 0 none 0 [] w0 by rw [← hw0]; exact LIn.start (HB3.out.on (below_drewN _ _)) (HS3.out.on (below_drewN _ _)) (HR3.out.on (below_drewN _ _)) (HF3.out.trans (Rf.of (below_drewN _ _))))
  have hhc : w2.heap.size < w0.heap.size := HST.out.bx.lt
  rw [hw0]
  have HWR := Lib.hid (show IntKind.i64.wrap (lev + 1) = lev + 1 from IntWalk.i64_in _ (by have := HL0.out; have := HL10.out; omega))
  clear hw0 hsub hd1 hd2 hd3 c0 c1 HB3 HS3 HR3 HF3 HD HR H1 H2
  obtain ⟨h, hh⟩ : ∃ h, w2.heap.size = h := ⟨_, rfl⟩
  rw [hh] at hz2 hz3 hhc HST ⊢
  clear hh
  go_loopw [49] (LRel w w0 g h (.slice A n c) k M f bs (rdV (f + 1) bs x)) (fun i _ => M - (intOf i).toNat)
  case atStart => exact ⟨[], .nil, x2, none, 0, none, 0, [], rfl, Nat.zero_le _, Nat.le_refl _, HST.out, by rw [HE.out, more_nil]; rfl⟩
  case round =>
    obtain ⟨ns, F, y, An, cn, Ap, cp, cs, rfl, hi, hnsF, hL, hres⟩ := hrel
    have HL := Lib.hid hL
    have HRES := Lib.hid hres
    have HRD := Lib.hid (HDW.out.rf hL.rf hB hlt)
    have hzr := hL.zc
    have hbl := hL.bx.lt
    obtain ⟨b0, _, _, b3, _⟩ := hL.bx.cells
    clear hL hres
    by_cases hltM : F.len < M
    · have hli : (F.len : Int) < (M : Int) := by omega
      have h0 : (0 : Int) ≤ (F.len : Int) := by omega
      go_upto_if 53 with (fail)
      go_cut [49] from 49 to 71 (fun i wx => i = .int .i64 (F.len : Int) ∧ ∃ nm An1 cn1 y1, nm.length ≤ 1 ∧ LIn w w0 g h (.slice A n c) k (ns ++ nm) F y1 An1 cn1 Ap cp cs wx ∧ (rdV f bs y1 = none → stepP (rdV f bs) bs (k == 4) y = none) ∧ (∀ d p z, rdV f bs y1 = some (d, p, z) → stepP (rdV f bs) bs (k == 4) y = some (nm, d, p, z)))
      case first =>
        by_cases hk : k = 4
        · have hk4 : (k == 4) = true := by simpa using hk
          have HK4 := Lib.hid hk4
          clear hk
          obtain ⟨s, y2, cd, jx, hck⟩ : ∃ s y2 cd jx, readChunk bs y = (s, y2, cd, jx) := ⟨_, _, _, _, rfl⟩
          have HCK := Lib.hid hck
          clear hck
          go_upto_region 15 with (fail)
          by_cases hcd : cd = 0
          · subst hcd
            go_region_law (first
              | (refine step_app5 slS rfl (.tmp 55) (.tmp 59) rfl w0.heap.size An ns.length cn (sv ns) (by simp [Act.eval, Act.put]) (by exact (own_rf HL.out.on HF6.out (by omega)).alloc _) w6.heap.size [.string ⟨s.toArray⟩] (by simp [Act.eval, Act.put]) rfl (by exact news1 _ _ _) (by simp [Value.oneCell']) (by omega) (by simp only [alloc_size]; omega) (w6.heap.size + 1) (by simp only [alloc_size]) ?_; intro g' c' w7 hown7 hg7 hat hlt7; have hb7 := bx_grown (HL.out.bx.rf HF6.out (by omega)) hg7 (fun e => by have := (HL.out.on.lt h e).1; omega); have hc7 := hb7.cells; obtain ⟨_, _, _, t7, _⟩ := hc7; have f7 := hb7.free 3)
              | (go_simp; go_at_call 67; refine (rchunk_calls (bs := bs) (x := y) (by exact HL.out.rr) (by exact HRD.out) hB hn hnc).mono ?_; rintro e w6 ⟨hf6, hres6⟩; rw [HCK.out] at hres6; obtain ⟨_, A6, c6, rfl, hown6, hr6⟩ := hres6.resolve_left (fun h => h.1 rfl); have HF6 := Lib.hid (show Rf wr w6 g from ⟨hf6.os, hf6.tape, hf6.output, hf6.size, hf6.block⟩); have HR6 := Lib.hid hr6; have hz6 : wr.heap.size ≤ w6.heap.size := hf6.size; have hstr := run_str (c := c6) (Rd.of_own hown6); have t6 := (HL.out.bx.rf HF6.out (by omega)).cells.2.2.2.1; have t6' := fun ob => cell_up (o := ob) t6; clear hf6 hres6 hr6 hown6))
            all_goals go_wp2_with fail
            all_goals go_meet
            all_goals exact ⟨rfl, [s], some ⟨g', 0, none⟩, c', y2, Nat.le_refl _, HL.out.name hlt hz2 hhc HF6.out HR6.out hg7 hown7 hat, fun hn => by rw [HK4.out]; exact step_rno HCK.out hn, fun d p z hy => by rw [HK4.out]; exact step_ryes HCK.out hy⟩
          · have HCD := Lib.hid hcd
            clear hcd
            go_region_law (first
              | (go_simp; go_at_call 67; refine (rchunk_calls (bs := bs) (x := y) (by exact HL.out.rr) (by exact HRD.out) hB hn hnc).mono ?_; rintro e w6 ⟨hf6, hres6⟩; rw [HCK.out] at hres6; obtain ⟨_, rfl⟩ := hres6.resolve_right (fun h => HCD.out h.1); have HF6 := Lib.hid (show Rf wr w6 g from ⟨hf6.os, hf6.tape, hf6.output, hf6.size, hf6.block⟩); unfold corrupt; clear hf6 hres6; go_simp; suffices hfk : wpAny Try.prog .text #[] (fun _ _ _ => True) 0 #[] ⟨#[], []⟩ w6 by exact And.intro rfl (And.intro (HL.out.rf.trans HF6.out) (.inl ⟨res_none HRES.out hltM (by rw [HK4.out]; exact step_rfault (by rw [HCK.out]; exact HCD.out)), rfl⟩))))
            all_goals trivial
        · have hk4 : (k == 4) = false := by simpa using hk
          have HK4 := Lib.hid hk4
          clear hk
          go_wp2_with fail
          go_meet
          exact ⟨rfl, [], An, cn, y, Nat.zero_le _, by rw [List.append_nil]; exact HL.out, fun hn => by rw [HK4.out]; exact step_no hn, fun d p z hy => by rw [HK4.out]; exact step_yes hy⟩
      case rest =>
        obtain ⟨rfl, nm, An1, cn1, y1, hnm, hL1, hno, hyes⟩ := hcut
        have HL1 := Lib.hid hL1
        have HNO := Lib.hid hno
        have HYES := Lib.hid hyes
        have HRD1 := Lib.hid (HDW.out.rf hL1.rf hB hlt)
        have hzr1 := hL1.zc
        have hbl1 := hL1.bx.lt
        obtain ⟨_, _, _, _, b4⟩ := hL1.bx.cells
        have hwr := HWR.out
        clear hL1 hno hyes b0 b3
        go_upto_region 16 with (fail)
        cases hy1 : rdV f bs y1 with
        | none =>
          have HY1 := Lib.hid hy1
          clear hy1
          go_region_law (first
            | (go_simp; go_at_call 50; refine (HIH.out _ y1 (by exact HL1.out.rr) (by exact HRD1.out)).mono ?_; rintro e w6 ⟨hf6, hres6⟩; rw [HY1.out] at hres6; obtain ⟨_, rfl⟩ := hres6.resolve_right (fun ⟨_, _, _, _, h, _⟩ => by cases h); have HF6 := Lib.hid (show Rf wc w6 g from ⟨hf6.os, hf6.tape, hf6.output, hf6.size, hf6.block⟩); unfold corrupt; clear hf6 hres6; go_simp; suffices hfk : wpAny Try.prog .text #[] (fun _ _ _ => True) 0 #[] ⟨#[], []⟩ w6 by exact And.intro rfl (And.intro (HL1.out.rf.trans HF6.out) (.inl ⟨res_none HRES.out hltM (HNO.out HY1.out), rfl⟩))))
          all_goals trivial
        | some r =>
          obtain ⟨d', p', z⟩ := r
          have HY1 := Lib.hid hy1
          clear hy1
          go_region_law (first
            | (refine step_app5 slV rfl (.tmp 63) (.tmp 68) rfl w0.heap.size Ap F.len cp cs (by simp [Act.eval, Act.put]) (by exact (own_rf HL1.out.op HF6.out (by omega)).alloc _) w6.heap.size [.int .i64 d'.k, .int .i64 d'.n, .slice Ab6 nb6 cb6, .slice An6 nn6 cn6, .slice Ap6 p'.len cp6] (by simp [Act.eval, Act.put]) rfl (by exact news5 _ _ _ _ _ _ _) (by simp [Value.oneCell']) (by omega) (by simp only [alloc_size]; omega) (w6.heap.size + 1) (by simp only [alloc_size]) ?_; intro g' c' w7 hown7 hg7 hat hlt7; have hb7 := bx_grown (HL1.out.bx.rf HF6.out (by omega)) hg7 (fun e => by have := (HL1.out.op.lt h e).1; omega); have hc7 := hb7.cells; obtain ⟨_, _, _, _, t7⟩ := hc7; have f7 := hb7.free 4)
            | (go_simp; go_at_call 50; refine (HIH.out _ y1 (by exact HL1.out.rr) (by exact HRD1.out)).mono ?_; rintro e w6 ⟨hf6, hres6⟩; rw [HY1.out] at hres6; obtain ⟨d6, p6, y6, v6, he6, rfl, ⟨sb6, sn6, sp6, rfl, hd6⟩, hr6⟩ := hres6.resolve_left (fun h => by cases h.1); obtain ⟨rfl, rfl, rfl⟩ : d' = d6 ∧ p' = p6 ∧ z = y6 := (by simpa using he6); have HD6 := Lib.hid hd6; obtain ⟨Ab6, nb6, cb6, An6, nn6, cn6, Ap6, cp6, rfl, rfl, rfl, _⟩ := hd6; have HF6 := Lib.hid (show Rf wc w6 g from ⟨hf6.os, hf6.tape, hf6.output, hf6.size, hf6.block⟩); have HR6 := Lib.hid hr6; have hz6 : wc.heap.size ≤ w6.heap.size := hf6.size; have t6 := (HL1.out.bx.rf HF6.out (by omega)).cells.2.2.2.2; have t6' := fun ob => cell_up (o := ob) t6; clear hf6 hres6 hr6 he6))
          all_goals go_wp2_with fail
          all_goals exact ⟨⟨ns ++ nm, F.snoc d' p', z, An1, cn1, some ⟨g', 0, none⟩, c', _, by rw [VF.len_snoc]; go_num, by rw [VF.len_snoc]; omega, by rw [VF.len_snoc, List.length_append]; omega, HL1.out.part hlt hz2 hhc HF6.out HR6.out (by exact HD6.out) hg7 hown7 hat, res_some HRES.out hltM (HYES.out _ _ _ HY1.out)⟩, by simp [intOf]; omega⟩
    · have HEND := Lib.hid (res_end HRES.out (by omega))
      obtain ⟨t0, t1, t2, t3, t4⟩ := HL.out.bx.cells
      have HRS := Lib.hid HL.out.rs
      obtain ⟨z0, z1, z2, z3, z4⟩ := HRS.out.cells
      have zf := HRS.out.free
      have hwz := HRS.out.lt
      go_wp2_with fail
      obtain ⟨W9, hW9⟩ : ∃ W9, (((((wr.setCell ⟨w.heap.size, 0, none⟩ (.int .i64 k)).setCell ⟨w.heap.size, 1, none⟩ (.int .i64 0)).setCell ⟨w.heap.size, 2, none⟩ (.slice none 0 0)).setCell ⟨w.heap.size, 3, none⟩ (.slice An ns.length cn)).setCell ⟨w.heap.size, 4, none⟩ (.slice Ap F.len cp)) = W9 := ⟨_, rfl⟩
      have hb9 : Bx W9 w.heap.size (.int .i64 k) (.int .i64 0) (.slice none 0 0) (.slice An ns.length cn) (.slice Ap F.len cp) := by rw [← hW9]; exact HRS.out.set5 _ _ _ _ _
      have HZ9 := Lib.hid (show W9.heap.size = wr.heap.size by rw [← hW9]; simp)
      have HC9 := Lib.hid (show ∀ q : Addr, w.heap.size ≠ q.block → W9.cell? q = wr.cell? q by rw [← hW9]; exact fun q hq => cell_set5 q hq)
      have HF9 := Lib.hid (show Rf w W9 g by rw [← hW9]; exact HL.out.rf.set5 (Nat.le_refl _))
      have HR9 := Lib.hid (show Rr W9 g (.slice A n c) y by rw [← hW9]; exact HL.out.rr.far5 (by omega))
      rw [hW9]
      clear hW9 z0 z1 z2 z3 z4 zf t0 t1 t2 t3 t4
      have hl9 := hb9.lt
      obtain ⟨y0, y1, y2, y3, y4⟩ := hb9.cells
      refine bodyPost_ret (v := .agg #[.int .i64 k, .int .i64 0, .slice none 0 0, .slice An ns.length cn, .slice Ap F.len cp]) (by simp [results, Try.results50, go_sem, y0, y1, y2, y3, y4, hl9]) rfl ?_
      refine ⟨HF9.out, .inr ⟨_, _, y, _, HEND.out, rfl, ?_, HR9.out⟩⟩
      exact (HL.out.done (by omega)).keep (fun q hq => HC9.out q (by have := hq.1; omega)) (fun b hb => ⟨by have := hb.1; omega, by rw [HZ9.out]; exact hb.2⟩)
end Go.Proofs.Ytolognhjdmkohaa
