/-
  The reference: the contract of ValueFault.
-/
import Derived.Test.YtolognhjdmkohaaKRefG
import Derived.Test.YtolognhjdmkohaaJ15
namespace Go.Proofs.Ytolognhjdmkohaa
open Go.RowKit
set_option linter.unusedVariables false
set_option linter.unusedSimpArgs false

/-- the nodes and their paths, to be read -/
def RdN (W1 w2 : World) (L : List Itm) (A7 A8 : Option Addr) (c7 c8 : Nat) : Prop :=
  ∃ cs7, w2.ownsRow W1.heap.size 26 5 (.slice A7 L.length c7) L.length cs7 ∧ OutC W1 L cs7 ∧ OwnI w2 W1.heap.size A8 c8 (L.map (·.1)) ∧ (∀ g ∈ L, ItOk g) ∧ Below W1.heap.size W1 w2
theorem RdN.node {W1 w2 wr : World} {L : List Itm} {A7 A8 : Option Addr} {c7 c8 i : Nat} {g : Itm} (h : RdN W1 w2 L A7 A8 c7 c8) (hb : Below w2.heap.size w2 wr) (hg : L[i]? = some g) :
    ∃ b o Ab nb cb An nn cn Ap cp, A7 = some ⟨b, o, none⟩ ∧ wr.cell? ⟨b, o + i * 5, none⟩ = some (.int .i64 g.2.1.k) ∧ wr.cell? ⟨b, o + i * 5 + 1, none⟩ = some (.int .i64 g.2.1.n) ∧ wr.cell? ⟨b, o + i * 5 + 2, none⟩ = some (.slice Ab nb cb) ∧ wr.cell? ⟨b, o + i * 5 + 3, none⟩ = some (.slice An nn cn) ∧ wr.cell? ⟨b, o + i * 5 + 4, none⟩ = some (.slice Ap g.2.2.len cp) ∧
      VIn wr wr.heap.size (.agg #[.int .i64 g.2.1.k, .int .i64 g.2.1.n, .slice Ab nb cb, .slice An nn cn, .slice Ap g.2.2.len cp]) g.2.1 g.2.2 ∧ ItOk g := by
  obtain ⟨cs7, ho, hc, _, hok, hb1⟩ := h
  have hi : i < L.length := (List.getElem?_eq_some_iff.1 hg).1
  obtain ⟨b, o, hA, hlt, hcell⟩ := (Rd.of_own ho).2 (by omega)
  obtain ⟨sb, sn, sp, hat, hd⟩ := OutC.at_ L cs7 i g hc hg
  have hd' := hd
  obtain ⟨Ab, nb, cb, An, nn, cn, Ap, cp, rfl, rfl, rfl, _⟩ := hd'
  have e : ∀ j u, [Value.int .i64 g.2.1.k, .int .i64 g.2.1.n, .slice Ab nb cb, .slice An nn cn, .slice Ap g.2.2.len cp][j]? = some u → wr.cell? ⟨b, o + (i * 5 + j), none⟩ = some u := fun j u hu => (hb.cell (p := ⟨b, o + (i * 5 + j), none⟩) hlt).trans (hcell _ _ (hat j u hu))
  refine ⟨b, o, Ab, nb, cb, An, nn, cn, Ap, cp, hA, e 0 _ rfl, e 1 _ rfl, e 2 _ rfl, e 3 _ rfl, e 4 _ rfl, ⟨_, _, _, rfl, hd_on hd (chain hb1 hb)⟩, hok g (List.mem_of_getElem? hg)⟩
theorem RdN.path {W1 w2 wr : World} {L : List Itm} {A7 A8 : Option Addr} {c7 c8 i : Nat} {g : Itm} (h : RdN W1 w2 L A7 A8 c7 c8) (hb : Below w2.heap.size w2 wr) (hg : L[i]? = some g) :
    ∃ b o A' c', A8 = some ⟨b, o, none⟩ ∧ wr.cell? ⟨b, o + i, none⟩ = some (.slice A' g.1.length c') ∧ Rd wr wr.heap.size 1 A' g.1.length (iv g.1) ∧ g.1.length ≤ c' := by
  obtain ⟨cs7, _, _, ⟨vs, ho, hl, hel⟩, _, _⟩ := h
  have hi : i < L.length := (List.getElem?_eq_some_iff.1 hg).1
  obtain ⟨b, o, hA, hlt, hcell⟩ := (Rd.of_own ho).2 (by simp; omega)
  obtain ⟨A', c', hv, hp⟩ := hel i g.1 (by rw [List.getElem?_map, hg]; rfl)
  exact ⟨b, o, A', c', hA, (hb.cell (p := ⟨b, o + i, none⟩) hlt).trans (hcell i _ hv), (Rd.of_own hp).on hb, (own_cap hp).1⟩
def FtRel (W w2 : World) (L : List Itm) (gf : Nat) (k : Value) (wr : World) : Prop := ∃ i : Nat, k = .int .i64 (i : Int) ∧ i ≤ L.length ∧ scan L 0 = scan (L.drop i) i ∧ Below w2.heap.size w2 wr
def FsRel (w2 : World) (L : List Itm) (n k : Value) (wr : World) : Prop := ∃ i : Nat, k = .int .i64 (i : Int) ∧ i ≤ L.length ∧ n = .int .i64 ((szS (L.take i) : Nat) : Int) ∧ szS (L.take i) ≤ 4000 ∧ Below w2.heap.size w2 wr
theorem scan_nil_none (i : Nat) : scan [] i = none := rfl
theorem refF_some {L : List Itm} {f : Int × Int} (h : scan L 0 = some f) : refF L = f := by unfold refF; rw [h]
theorem refF_big {L : List Itm} (h : scan L 0 = none) (hs : 4000 < szS L) : refF L = (14, -1) := by unfold refF; rw [h]; simp only; rw [if_pos hs]
theorem refF_ok {L : List Itm} (h : scan L 0 = none) (hs : ¬ 4000 < szS L) : refF L = (0, 0) := by unfold refF; rw [h]; simp only; rw [if_neg hs]
theorem nodeSz_le {g : Itm} (h : ItOk g) : nodeSz g.2.1 g.2.2.len ≤ 1099512676353 + 1024 := by
  obtain ⟨⟨⟨_, _, hn1, hn2⟩, hb, hns, hnl⟩, _, hp, _⟩ := h
  have h1 := num_len g.2.1.n hn1 hn2
  have h2 := num_len (g.2.2.len : Int) (by omega) (by omega)
  have h3 := nmSz_le hnl
  have h4 : g.2.1.ns.length * 1048577 ≤ 1048576 * 1048577 := Nat.mul_le_mul_right _ hns
  have h5 := chunk_len g.2.1.bs (by omega)
  unfold nodeSz
  split
  · omega
  · split
    · split
      · omega
      · omega
    · omega
set_option maxRecDepth 100000 in
set_option maxHeartbeats 4000000 in
theorem valueFault_calls {w : World} {v : Value} {d : Nd} {p : VF} (hv : VIn w w.heap.size v d p) (hm : Mod d p) :
    Calls Try.prog 15 #[v] w fun e w' => e = .returned (.agg #[.int .i64 (valF d p).1, .int .i64 (valF d p).2]) ∧ Below w.heap.size w w' := by
  rw [valF_ref]
  have HV := Lib.hid hv
  have HM := Lib.hid hm
  obtain ⟨sb, sn, sp, rfl, hd0⟩ := hv
  obtain ⟨Ab, nb, cb, An, nn, cn, Ap, cp, rfl, rfl, rfl, _⟩ := hd0
  clear hm
  go_enter Try.func15, Try.ntmps15
  go_wp2_with fail
  obtain ⟨W1, hW1⟩ : ∃ W1, (w.alloc (.cells #[.int .i64 d.k, .int .i64 d.n, .slice Ab nb cb, .slice An nn cn, .slice Ap p.len cp] 26)).alloc (.cells #[.int .i64 0, .int .i64 0] 29) = W1 := ⟨_, rfl⟩
  have HB1 := Lib.hid (show Below w.heap.size w W1 by rw [← hW1]; exact bel2 _ _ _)
  have HF1 := Lib.hid (show FC W1 (w.heap.size + 1) 0 0 by
    rw [← hW1]
    have h := FC.new (w.alloc (.cells #[.int .i64 d.k, .int .i64 d.n, .slice Ab nb cb, .slice An nn cn, .slice Ap p.len cp] 26)) 0 0
    rw [alloc_size] at h
    exact h)
  rw [hW1]
  clear hW1
  refine (nodes_calls (most := 601) (HV.out.on HB1.out) HM.out.nd HM.out.fp HM.out.pl (Nat.le_refl _)).mono ?_
  rintro e w2 ⟨A7, c7, A8, c8, cs7, rfl, ho7, hc7, ho8, hok, hb2⟩
  obtain ⟨L, hL⟩ : ∃ L, (expL 601 ([], d, p)).take 601 = L := ⟨_, rfl⟩
  have hll : L.length ≤ 601 := by rw [← hL, List.length_take]; omega
  rw [hL] at ho7 hc7 ho8 hok ⊢
  have HRN := Lib.hid (show RdN W1 w2 L A7 A8 c7 c8 from ⟨cs7, ho7, hc7, ho8, hok, hb2⟩)
  have HF2 := Lib.hid (HF1.out.on hb2)
  have HB2 := Lib.hid (chain HB1.out hb2)
  have HLE := Lib.hid hL
  clear hL ho7 hc7 ho8 hok hb2
  have hfz : w.heap.size + 1 < w2.heap.size := HF2.out.1
  go_wp2_with fail
  go_loopw [5] (FtRel w w2 L (w.heap.size + 1)) (fun k _ => L.length - (intOf k).toNat)
  case atStart => exact ⟨0, rfl, Nat.zero_le _, by simp, Below.refl _ _⟩
  case round =>
    obtain ⟨i, rfl, hi, hsc, hbr⟩ := hrel
    have HSC := Lib.hid hsc
    have HBR := Lib.hid hbr
    have HFR := Lib.hid (HF2.out.on hbr)
    clear hsc hbr
    by_cases hlt : i < L.length
    · obtain ⟨g, hg⟩ : ∃ g, L[i]? = some g := ⟨_, List.getElem?_eq_getElem hlt⟩
      have HG := Lib.hid hg
      have HDR := Lib.hid (show L.drop i = g :: L.drop (i + 1) by rw [List.drop_eq_getElem_cons hlt]; congr 1; exact (List.getElem?_eq_some_iff.1 hg).2)
      have hli : (i : Int) < (L.length : Int) := by omega
      have h0 : (0 : Int) ≤ (i : Int) := by omega
      by_cases h600 : 600 ≤ i
      · have h600' : (600 : Int) ≤ (i : Int) := by omega
        have HR := Lib.hid (refF_some (by rw [HSC.out, HDR.out]; exact scan_many (.inl h600)))
        obtain ⟨z4, r0, r1, e0, e1⟩ := HFR.out
        go_wp2_with (go_at_call 20; refine (at_calls _ _ _).mono ?_; rintro e w' ⟨rfl, rfl⟩)
        clear r0 r1 e0 e1 z4
        obtain ⟨z4, r0, r1, e0, e1⟩ := ((HFR.out.put 2 (i : Int)).alloc (.cells #[.int .i64 2, .int .i64 (i : Int)] 29))
        refine bodyPost_ret (v := .agg #[.int .i64 2, .int .i64 (i : Int)]) (by simp [results, Try.results15, go_sem, r0, r1, z4]) rfl ?_
        exact ⟨by rw [HLE.out, HR.out], bel_up (below_put (chain HB2.out HBR.out) (by omega) _ _) _⟩
      · have h600' : ¬ (600 : Int) ≤ (i : Int) := by omega
        obtain ⟨b8, o8, Ax, cx, rfl, hcp, _, _⟩ := HRN.out.path HBR.out hg
        by_cases h10 : 10 ≤ g.1.length
        · have h10' : (10 : Int) ≤ (g.1.length : Int) := by omega
          have HR := Lib.hid (refF_some (by rw [HSC.out, HDR.out]; exact scan_many (.inr h10)))
          obtain ⟨z4, r0, r1, e0, e1⟩ := HFR.out
          go_wp2_with (go_at_call 20; refine (at_calls _ _ _).mono ?_; rintro e w' ⟨rfl, rfl⟩)
          clear r0 r1 e0 e1 z4
          obtain ⟨z4, r0, r1, e0, e1⟩ := ((HFR.out.put 2 (i : Int)).alloc (.cells #[.int .i64 2, .int .i64 (i : Int)] 29))
          refine bodyPost_ret (v := .agg #[.int .i64 2, .int .i64 (i : Int)]) (by simp [results, Try.results15, go_sem, r0, r1, z4]) rfl ?_
          exact ⟨by rw [HLE.out, HR.out], bel_up (below_put (chain HB2.out HBR.out) (by omega) _ _) _⟩
        · have h10' : ¬ (10 : Int) ≤ (g.1.length : Int) := by omega
          have hno : ¬ (600 ≤ i ∨ 10 ≤ g.1.length) := by omega
          obtain ⟨b7, o7, Ab', nb', cb', An', nn', cn', Ap', cp', rfl, q0, q1, q2, q3, q4, hvg, hok⟩ := HRN.out.node HBR.out hg
          have HVG := Lib.hid hvg
          have HOK := Lib.hid hok
          have hgl := hok.2.2.2
          clear hvg hok hg
          go_wp2_with fail
          refine (refCode_calls HVG.out HOK.out.1 HOK.out.2.2.1).mono ?_
          rintro e w3 ⟨rfl, hb3⟩
          have HB3 := Lib.hid (chain HBR.out hb3)
          have HF3 := Lib.hid (HFR.out.on hb3)
          obtain ⟨nc, hnc⟩ : ∃ nc, nodeC g.2.1 g.2.2.len = nc := ⟨_, rfl⟩
          have hbd := nodeC_bd g.2.1 g.2.2.len
          rw [hnc] at hbd ⊢
          have HNC := Lib.hid hnc
          clear hb3 hnc q0 q1 q2 q3 q4
          by_cases hz : nc = 0
          · subst hz
            have HS2 := Lib.hid (show scan L 0 = scan (L.drop (i + 1)) (i + 1) by rw [HSC.out, HDR.out]; exact scan_next hno HNC.out)
            go_wp2_with fail
            go_roundw
            case rel => exact ⟨i + 1, by go_num, by omega, HS2.out, HB3.out⟩
            case measure => simp [intOf]; omega
          · have hz' : (nc != 0) = true := by simpa using hz
            have HR := Lib.hid (show refF L = (nc, (i : Int)) from refF_some (by rw [HSC.out, HDR.out, scan_node hno (by rw [HNC.out]; exact hz), HNC.out]))
            obtain ⟨z4, r0, r1, e0, e1⟩ := HF3.out
            go_wp2_with (go_at_call 20; refine (at_calls _ _ _).mono ?_; rintro e w' ⟨rfl, rfl⟩)
            clear r0 r1 e0 e1 z4
            obtain ⟨z4, r0, r1, e0, e1⟩ := ((HF3.out.put nc (i : Int)).alloc (.cells #[.int .i64 nc, .int .i64 (i : Int)] 29))
            refine bodyPost_ret (v := .agg #[.int .i64 nc, .int .i64 (i : Int)]) (by simp [results, Try.results15, go_sem, r0, r1, z4]) rfl ?_
            exact ⟨by rw [HLE.out, HR.out], bel_up (below_put (chain HB2.out HB3.out) (by omega) _ _) _⟩
    · have HSN := Lib.hid (show scan L 0 = none by rw [HSC.out, List.drop_of_length_le (by omega)]; rfl)
      go_wp2_with fail
      clear hlt hi
      go_loopw [7, 8] (FsRel w2 L) (fun _ k _ => L.length - (intOf k).toNat)
      case atStart => exact ⟨0, rfl, Nat.zero_le _, by simp [szS], by simp [szS], HBR.out⟩
      case round =>
        obtain ⟨j, rfl, hj, rfl, hsz, hbr⟩ := hrel
        have HBJ := Lib.hid hbr
        have HFJ := Lib.hid (HF2.out.on hbr)
        clear hbr
        obtain ⟨s0, hs0⟩ : ∃ s0, szS (L.take j) = s0 := ⟨_, rfl⟩
        rw [hs0] at hsz ⊢
        have HS0 := Lib.hid hs0
        clear hs0
        by_cases hlt : j < L.length
        · obtain ⟨g, hg⟩ : ∃ g, L[j]? = some g := ⟨_, List.getElem?_eq_getElem hlt⟩
          have HG := Lib.hid hg
          obtain ⟨b7, o7, Ab', nb', cb', An', nn', cn', Ap', cp', rfl, q0, q1, q2, q3, q4, hvg, hok⟩ := HRN.out.node HBJ.out hg
          have HVG := Lib.hid hvg
          have HOK := Lib.hid hok
          have hle := nodeSz_le hok
          have hli : (j : Int) < (L.length : Int) := by omega
          have h0 : (0 : Int) ≤ (j : Int) := by omega
          clear hvg hok hg
          go_wp2_with fail
          refine (refSize_calls HVG.out HOK.out.1 HOK.out.2.2.1).mono ?_
          rintro e w3 ⟨rfl, hb3⟩
          have HB3 := Lib.hid (chain HBJ.out hb3)
          have HF3 := Lib.hid (HFJ.out.on hb3)
          obtain ⟨sg, hsg⟩ : ∃ sg, nodeSz g.2.1 g.2.2.len = sg := ⟨_, rfl⟩
          rw [hsg] at hle ⊢
          have HN := Lib.hid (show szS (L.take (j + 1)) = s0 + sg by rw [szS_take HG.out, HS0.out, hsg])
          clear hb3 hsg q0 q1 q2 q3 q4
          by_cases hbig : 4000 < s0 + sg
          · have hbig' : (4000 : Int) < (s0 : Int) + (sg : Int) := by omega
            have HR := Lib.hid (refF_big HSN.out (by have := szS_part L (j + 1); have := HN.out; omega))
            obtain ⟨z4, r0, r1, e0, e1⟩ := HF3.out
            go_wp2_with (go_at_call 20; refine (at_calls _ _ _).mono ?_; rintro e w' ⟨rfl, rfl⟩)
            clear r0 r1 e0 e1 z4
            obtain ⟨z4, r0, r1, e0, e1⟩ := ((HF3.out.put 14 (-1)).alloc (.cells #[.int .i64 14, .int .i64 (-1)] 29))
            refine bodyPost_ret (v := .agg #[.int .i64 14, .int .i64 (-1)]) (by simp [results, Try.results15, go_sem, r0, r1, z4]) rfl ?_
            exact ⟨by rw [HLE.out, HR.out], bel_up (below_put (chain HB2.out HB3.out) (by omega) _ _) _⟩
          · have hbig' : ¬ (4000 : Int) < (s0 : Int) + (sg : Int) := by omega
            go_wp2_with fail
            go_roundw
            case rel => exact ⟨j + 1, by go_num, by omega, by rw [HN.out]; simp, by rw [HN.out]; omega, HB3.out⟩
            case measure => simp [intOf]; omega
        · have HR := Lib.hid (refF_ok HSN.out (by have := HS0.out; rw [List.take_of_length_le (by omega)] at this; omega))
          obtain ⟨z4, r0, r1, e0, e1⟩ := HFJ.out
          go_wp2_with fail
          clear r0 r1 e0 e1 z4
          obtain ⟨z4, r0, r1, e0, e1⟩ := ((HFJ.out.put 0 0))
          refine bodyPost_ret (v := .agg #[.int .i64 0, .int .i64 0]) (by simp [results, Try.results15, go_sem, r0, r1, z4]) rfl ?_
          exact ⟨by rw [HLE.out, HR.out], below_put (chain HB2.out HBJ.out) (by omega) _ _⟩
end Go.Proofs.Ytolognhjdmkohaa
