/-
  The law on reading an encoding back.
-/
import Derived.Test.YtolognhjdmkohaaKLvE
import Derived.Laws.BitsAll
namespace Go.Proofs.Ytolognhjdmkohaa
open Go.RowKit
set_option linter.unusedVariables false
set_option linter.unusedSimpArgs false

/-- a cell of a row of one's own is written -/
theorem own_put {w : World} {base e : Nat} {A : Option Addr} {n c k : Nat} {xs : List Value} (h : w.ownsRow base e 1 (.slice A n c) n xs) (hk : k < n) :
    ∃ g o u, A = some ⟨g, o, none⟩ ∧ base ≤ g ∧ g < w.heap.size ∧ xs[k]? = some u ∧ w.cell? ⟨g, o + k, none⟩ = some u ∧ w.frozen? ⟨g, o + k, none⟩ = false ∧ ∀ v, Rd (w.setCell ⟨g, o + k, none⟩ v) w.heap.size 1 A n (xs.set k v) := by
  have hr := Rd.of_own h
  have hl := hr.len
  obtain ⟨g, o, rfl, hg, hc⟩ := hr.2 (by omega)
  have hu : xs[k]? = some xs[k] := List.getElem?_eq_getElem (by omega)
  have hck := hc k _ hu
  rcases h.2 with ⟨hv, h0⟩ | ⟨g', cap, cur, hv, hb, hh, _⟩
  · omega
  · simp only [Value.slice.injEq, Option.some.injEq, Addr.mk.injEq] at hv
    obtain ⟨⟨rfl, rfl, _⟩, _, rfl⟩ := hv
    have hfz : w.frozen? ⟨g, 0 + k, none⟩ = false := by
      unfold World.frozen?
      simp [hh]
    refine ⟨g, 0, _, rfl, hb, hg, hu, hck, hfz, fun v => ⟨by simp [hl], fun hn => ⟨g, 0, rfl, hg, fun j x hx => ?_⟩⟩⟩
    rw [List.getElem?_set] at hx
    by_cases hj : k = j
    · subst hj
      rw [if_pos rfl, if_pos (by omega)] at hx
      cases hx
      exact World.cell?_setCell_same _ _ _ hck
    · rw [if_neg hj] at hx
      rw [World.cell?_setCell_other _ _ _ _ (by simp; try omega)]
      exact hc j x hx
theorem bv_set (bs : List UInt8) (k : Nat) (u : UInt8) : (bv bs).set k (.int .u8 (u.toNat : Int)) = bv (bs.set k u) := by
  unfold bv; rw [List.map_set]
theorem dec_changed {d d' : Nd} {p p' : VF} {bs : List UInt8} {k : Nat} {u r : UInt8} (hb : encV d p = bs) (hu : bs[k]? = some u) (hr : r ≠ u) (h : decV (bs.set k r) = .inr (d', p')) : sameV d' p' d p = false ∧ Mod d' p' := by
  obtain ⟨_, hm, _, he⟩ := decV_inv h
  refine ⟨?_, hm⟩
  rw [Bool.eq_false_iff]
  intro hs
  obtain ⟨rfl, rfl⟩ := (sameV_iff d' p' d p).1 hs
  rw [hb] at he
  have h1 : (bs.set k r)[k]? = some r := by rw [List.getElem?_set, if_pos rfl, if_pos (List.getElem?_eq_some_iff.1 hu).1]
  rw [← he, hu] at h1
  injection h1 with h1
  exact hr h1.symm
theorem xor_byte (u : UInt8) {x : Int} (h0 : 0 ≤ x) (h1 : x ≤ 255) (hx : x ≠ 0) : ∃ r : UInt8, bits .xor .u8 (u.toNat : Int) x = (r.toNat : Int) ∧ r ≠ u := by
  obtain ⟨c, rfl⟩ := Int.eq_ofNat_of_zero_le h0
  have hc : c < 2 ^ 8 := by omega
  have hu : u.toNat < 2 ^ 8 := u.toNat_lt
  have hxx : u.toNat ^^^ c < 2 ^ 8 := Nat.xor_lt_two_pow hu hc
  have ht : (UInt8.ofNat (u.toNat ^^^ c)).toNat = u.toNat ^^^ c := by rw [UInt8.toNat_ofNat']; exact Nat.mod_eq_of_lt hxx
  refine ⟨UInt8.ofNat (u.toNat ^^^ c), by rw [u8_xor_nat _ _ hu hc, ht], fun h => ?_⟩
  have h2 : u.toNat ^^^ c = u.toNat := by rw [← ht, h]
  have h3 : u.toNat ^^^ (u.toNat ^^^ c) = u.toNat ^^^ u.toNat := by rw [h2]
  rw [← Nat.xor_assoc, Nat.xor_self, Nat.zero_xor] at h3
  exact hx (by rw [h3]; rfl)
set_option maxRecDepth 100000 in
set_option maxHeartbeats 8000000 in
theorem lawRound_calls {w : World} {v : Value} {d : Nd} {p : VF} {x1 x2 : Int} (hv : VIn w w.heap.size v d p) (hm : Mod d p) (h20 : 0 ≤ x2) (h21 : x2 ≤ 255) :
    Calls Try.prog 6 #[v, .int .i64 x1, .int .u8 x2] w fun e w' => e = .returned (.bool true) ∧ Below w.heap.size w w' := by
  have HV := Lib.hid hv
  have HM := Lib.hid hm
  have H20 := Lib.hid (show 0 ≤ x2 ∧ x2 ≤ 255 from ⟨h20, h21⟩)
  obtain ⟨sb, sn, sp, rfl, hd0⟩ := hv
  obtain ⟨Ab, nb, cb, An, nn, cn, Ap, cp, rfl, rfl, rfl, _⟩ := hd0
  clear hm h20 h21
  go_enter Try.func6, Try.ntmps6
  go_wp2_with fail
  refine (example_calls _).mono ?_
  rintro e w2 ⟨rfl, hb2⟩
  have HX2 := Lib.hid ((Bx.new w (.int .i64 d.k) (.int .i64 d.n) (.slice Ab nb cb) (.slice An nn cn) (.slice Ap p.len cp)).on hb2)
  have HB2 := Lib.hid (belA hb2)
  obtain ⟨q0, q1, q2, q3, q4⟩ := HX2.out.cells
  clear hb2
  go_wp2_with fail
  refine (encodeE_calls HM.out (HV.out.on HB2.out)).mono ?_
  rintro e w3 ⟨hb3, hres⟩
  have HX3 := Lib.hid (HX2.out.on hb3)
  have HB3 := Lib.hid (chain HB2.out hb3)
  clear hb3 q0 q1 q2 q3 q4 HX2 HB2
  rcases hres with ⟨cd, ix, hc, hvf, rfl⟩ | ⟨A3, c3, m, hck, hvf, hle, rfl, hown3⟩
  · have HVF := Lib.hid hvf
    have hc' : (cd != 0) = true := by simpa using hc
    have hfld := flt_field cd ix
    obtain ⟨r0, r1, r2, r3, r4⟩ := (HX3.out.on (bel1 _ (.cells #[.int .i64 cd, .int .i64 ix] 29))).cells
    clear hvf hc
    go_wp2_with fail
    refine (valueFault_calls (HV.out.on (bel_up HB3.out _)) HM.out).mono ?_
    rintro e w4 ⟨rfl, hb4⟩
    have HB4 := Lib.hid (chain (bel_up HB3.out _) hb4)
    rw [HVF.out]
    clear hb4 r0 r1 r2 r3 r4
    go_wp2_with fail
    go_ret
    exact ⟨rfl, HB4.out⟩
  · have HD := Lib.hid (decV_enc HM.out hvf)
    obtain ⟨bs, hbs⟩ : ∃ bs, encV d p = bs := ⟨_, rfl⟩
    have HBS := Lib.hid hbs
    rw [hbs] at hle hown3 HD ⊢
    obtain ⟨ln, hln⟩ : ∃ ln, bs.length = ln := ⟨_, rfl⟩
    rw [hln] at hle hown3 ⊢
    have HLN := Lib.hid hln
    have HCP := Lib.hid (own_cap hown3).1
    have HO3 := Lib.hid ((Rd.of_own hown3).on (bel1 _ (.cells #[.int .i64 0, .int .i64 0] 29)))
    have HX4 := Lib.hid (HX3.out.on (bel1 _ (.cells #[.int .i64 0, .int .i64 0] 29)))
    have HB4 := Lib.hid (bel_up HB3.out (.cells #[.int .i64 0, .int .i64 0] 29))
    clear hvf hck hown3 hbs hln HX3 HB3
    go_wp2_with fail
    refine (decode_calls HO3.out HCP.out).mono ?_
    rintro e w5 ⟨hb5, hres⟩
    rcases hres with ⟨c5, i5, hc5, hd5, rfl⟩ | ⟨d5, p5, v5, hd5, rfl, hv5⟩
    · rw [HD.out] at hd5; cases hd5
    · obtain ⟨rfl, rfl⟩ : d = d5 ∧ p = p5 := by have h := HD.out; rw [hd5] at h; cases h; exact ⟨rfl, rfl⟩
      have hv5' : VIn w5 w5.heap.size v5 d p := hv5.vin (fun b h => h.2)
      have HV5 := Lib.hid hv5'
      obtain ⟨sb5, sn5, sp5, rfl, Ab5, nb5, cb5, An5, nn5, cn5, Ap5, cp5, rfl, rfl, rfl, _⟩ := hv5'
      have hw : Below w5.heap.size w5 ((w5.alloc (.cells #[.int .i64 d.k, .int .i64 d.n, .slice Ab5 nb5 cb5, .slice An5 nn5 cn5, .slice Ap5 p.len cp5] 26)).alloc (.cells #[.int .i64 0, .int .i64 0] 29)) := bel2 _ _ _
      have HV6 := Lib.hid (HV5.out.on hw)
      have HX6 := Lib.hid ((HX4.out.on hb5).on hw)
      have HB6 := Lib.hid (chain (chain HB4.out hb5) hw)
      have HO6 := Lib.hid ((HO3.out.on hb5).on hw)
      clear hw hb5 hd5 hv5 HV5 HX4 HB4 HO3
      obtain ⟨r0, r1, r2, r3, r4⟩ := HX6.out.cells
      go_upto_region 9 with (go_at_call 21; refine (same_calls HM.out.pl HM.out.fp HM.out.nd.2.2.1 HM.out.pl HM.out.fp (HV.out.on HB6.out) HV6.out).mono ?_; rintro e w7 ⟨rfl, hb7⟩; rw [(sameV_iff d p d p).2 ⟨rfl, rfl⟩]; have HX7 := Lib.hid (HX6.out.on hb7); have HB7 := Lib.hid (chain HB6.out hb7); have HO7 := Lib.hid (HO6.out.on hb7); clear hb7)
      clear r0 r1 r2 r3 r4 HX6 HB6 HO6 HV6
      by_cases hin : 0 ≤ x1 ∧ x1 ≤ (ln : Int) - 1
      · have hi : (decide (0 ≤ x1) && decide (x1 ≤ (ln : Int) - 1)) = true := by simp [hin]
        by_cases hx2 : x2 = 0
        · subst hx2
          clear hin
          go_wp2_with (go_at_call 23; refine (in_calls _ _ _ _).mono ?_; rintro e w' ⟨rfl, rfl⟩; rw [hi])
          go_ret
          exact ⟨rfl, HB7.out⟩
        · obtain ⟨k, rfl⟩ := Int.eq_ofNat_of_zero_le hin.1
          have hk : k < ln := by omega
          have hx2' : (x2 == 0) = false := by simpa using hx2
          have HX2N := Lib.hid hx2
          clear hin hx2
          go_wp2_with (go_at_call 23; refine (in_calls _ _ _ _).mono ?_; rintro e w' ⟨rfl, rfl⟩; rw [hi])
          refine (copy_calls HO7.out (by omega)).mono ?_
          rintro e w8 ⟨A8, c8, rfl, hown8, hb8⟩
          rw [HLN.out] at hown8 ⊢
          have HCP8 := Lib.hid (own_cap hown8).1
          obtain ⟨g, o, u0, rfl, hgb, hgl, hu, hcell, hfz, hput⟩ := own_put hown8 hk
          obtain ⟨u, hub, rfl⟩ : ∃ u : UInt8, bs[k]? = some u ∧ u0 = .int .u8 (u.toNat : Int) := by
            unfold bv at hu
            rw [List.getElem?_map] at hu
            cases hb : bs[k]? with
            | none => rw [hb] at hu; cases hu
            | some u => rw [hb] at hu; simp at hu; exact ⟨u, rfl, hu.symm⟩
          obtain ⟨r, hxor, hru⟩ := xor_byte u H20.out.1 H20.out.2 HX2N.out
          have hput' := hput (.int .u8 (r.toNat : Int))
          rw [bv_set] at hput'
          have HP := Lib.hid hput'
          have HRU := Lib.hid hru
          have HUB := Lib.hid hub
          have HX8 := Lib.hid (HX7.out.on hb8)
          have HB8 := Lib.hid (chain HB7.out hb8)
          have HG := Lib.hid (show w7.heap.size ≤ g ∧ w.heap.size < w7.heap.size from ⟨hgb, HX7.out.lt⟩)
          have h255 := u.toNat_lt
          clear hput hput' hru hub hown8 hb8 hu HX7 HB7 HO7 hgb hgl
          go_wp2_with fail
          obtain ⟨W9, hW9⟩ : ∃ W9, w8.setCell ⟨g, o + k, none⟩ (.int .u8 (r.toNat : Int)) = W9 := ⟨_, rfl⟩
          have hgg := HG.out
          have HX9 := Lib.hid (show Bx W9 w.heap.size (.int .i64 d.k) (.int .i64 d.n) (.slice Ab nb cb) (.slice An nn cn) (.slice Ap p.len cp) by rw [← hW9]; exact HX8.out.far (by omega))
          have HB9 := Lib.hid (show Below w.heap.size w W9 by rw [← hW9]; exact HB8.out.setCell (by show w.heap.size ≤ g; omega) _)
          have HR9 := Lib.hid (show Rd W9 W9.heap.size 1 (some ⟨g, o, none⟩) ln (bv (bs.set k r)) by have h := HP.out; rw [hW9] at h; rw [show W9.heap.size = w8.heap.size by rw [← hW9]; simp]; exact h)
          rw [hW9]
          clear hW9 hgg HX8 HB8 HP hcell hfz hxor
          refine (decode_calls HR9.out HCP8.out).mono ?_
          rintro e w10 ⟨hb10, hres⟩
          rcases hres with ⟨c5, i5, hc5, hd5, rfl⟩ | ⟨d5, p5, v5, hd5, rfl, hv5⟩
          · have hc' : (c5 != 0) = true := by simpa using hc5
            have HB10 := Lib.hid (chain HB9.out hb10)
            clear hb10 hd5 hc5
            go_wp2_with fail
            go_ret
            exact ⟨rfl, bel_up2 HB10.out _ _⟩
          · obtain ⟨hsm, hmd⟩ := dec_changed HBS.out HUB.out HRU.out hd5
            have HSM := Lib.hid hsm
            have HMD := Lib.hid hmd
            have hv5' : VIn w10 w10.heap.size v5 d5 p5 := hv5.vin (fun b h => h.2)
            have HV10 := Lib.hid hv5'
            obtain ⟨sb6, sn6, sp6, rfl, Ab6, nb6, cb6, An6, nn6, cn6, Ap6, cp6, rfl, rfl, rfl, _⟩ := hv5'
            have hw : Below w10.heap.size w10 ((w10.alloc (.cells #[.int .i64 d5.k, .int .i64 d5.n, .slice Ab6 nb6 cb6, .slice An6 nn6 cn6, .slice Ap6 p5.len cp6] 26)).alloc (.cells #[.int .i64 0, .int .i64 0] 29)) := bel2 _ _ _
            have HV11 := Lib.hid (HV10.out.on hw)
            have HX11 := Lib.hid ((HX9.out.on hb10).on hw)
            have HB11 := Lib.hid (chain (chain HB9.out hb10) hw)
            clear hw hb10 hd5 hv5 HV10 HX9 HB9 hsm hmd
            obtain ⟨r0, r1, r2, r3, r4⟩ := HX11.out.cells
            go_wp2_with (go_at_call 21; refine (same_calls HMD.out.pl HMD.out.fp HMD.out.nd.2.2.1 HM.out.pl HM.out.fp HV11.out (HV.out.on HB11.out)).mono ?_; rintro e w12 ⟨rfl, hb12⟩; rw [HSM.out]; have HB12 := Lib.hid (chain HB11.out hb12); clear hb12)
            go_ret
            exact ⟨rfl, HB12.out⟩
      · have hi : (decide (0 ≤ x1) && decide (x1 ≤ (ln : Int) - 1)) = false := by
          rw [Bool.eq_false_iff]; intro h; simp at h; exact hin ⟨h.1, by omega⟩
        clear hin
        go_wp2_with (go_at_call 23; refine (in_calls _ _ _ _).mono ?_; rintro e w' ⟨rfl, rfl⟩; rw [hi])
        go_ret
        exact ⟨rfl, HB7.out⟩
end Go.Proofs.Ytolognhjdmkohaa
