import Derived.Test.YtgdiadednlajgaaGreatDoorP35
import Derived.Test.YtgdiadednlajgaaGreatDoorP25
namespace Go.Proofs.YtgdiadednlajgaaGreatDoor
open Go.RowKit
set_option linter.unusedVariables false
set_option linter.unusedSimpArgs false
theorem hx_index (c : UInt8) : Lib.indexByte [48, 49, 50, 51, 52, 53, 54, 55, 56, 57, 97, 98, 99, 100, 101, 102] c = hxAt c := by
  have h : ∀ n : Fin 256, Lib.indexByte [48, 49, 50, 51, 52, 53, 54, 55, 56, 57, 97, 98, 99, 100, 101, 102] (UInt8.ofNat n) = hxAt (UInt8.ofNat n) := by decide +kernel
  have := h ⟨c.toNat, c.toNat_lt⟩
  simpa using this
theorem idxbyte_calls (c : UInt8) (w : World) : Calls Tryz.prog 110 #[.string ⟨#[48, 49, 50, 51, 52, 53, 54, 55, 56, 57, 97, 98, 99, 100, 101, 102]⟩, .int .u8 (c.toNat : Int)] w fun e w' => e = .returned (.int .i64 (hxAt c)) ∧ Below w.heap.size w w' := by
  refine (Tryz.strings_IndexByte _ (c.toNat : Int) w).mono ?_
  rintro e w' ⟨rfl, rfl⟩
  refine ⟨?_, Below.refl _ _⟩
  have e1 : ((c.toNat : Int).toNat).toUInt8 = c := by simp
  rw [e1]
  exact congrArg (fun z => Ending.returned (Value.int .i64 z)) (hx_index c)
def byteV (h l : Int) : UInt8 := UInt8.ofNat ((h * 16 + l % 16) % 256).toNat
theorem hxAt_in (c : UInt8) : -1 ≤ hxAt c ∧ hxAt c ≤ 15 := by
  unfold hxAt
  split
  · omega
  · split
    · omega
    · omega
theorem byteV_hx {a b : UInt8} (hb : ¬ hxAt b < 0) : byteV (hxAt a) (hxAt b) = hxByte a b := by
  have := hxAt_in b
  unfold byteV hxByte
  rw [show hxAt b % 16 = hxAt b by omega]
section
variable {P : Program} {ops : Array Oper} {C : World → Prop} {N : Nat} {E : Env} {o : Oper} {d : Nat}
theorem fin17 {m : Int} (h : -1 ≤ m ∧ m ≤ 15) : ∃ n : Fin 17, m = ((n : Nat) : Int) - 1 := ⟨⟨(m + 1).toNat, by omega⟩, by simp only; omega⟩
theorem o_shl4 {x y : Operand} {t t' : TypeId} {m : Int} (h : -1 ≤ m ∧ m ≤ 15) (ho : o.op = .binOp .shl t x y t') (hd : o.dst = some d) (hN : d < N) (hw : wantE ops E o = some true) (hx : ev E x = some (.int .i64 m)) (hy : ev E y = some (.int .u64 4)) : oE P ops C N E ((d, .int .i64 (m * 16)) :: E) o :=
  o_bin ho hd hN hw hx hy fun w => by
    rw [binOp_shl, shift_shl_i64 (h₀ := by decide) (h₁ := by decide)]
    have e : IntKind.i64.wrap (m * 2 ^ (4 : Int).toNat) = m * 16 := by
      rw [show (2 : Int) ^ (4 : Int).toNat = 16 by decide]
      exact IntWalk.i64_in _ (by omega)
    rw [e]
    rfl
theorem o_and15 {x y : Operand} {t t' : TypeId} {m : Int} (h : -1 ≤ m ∧ m ≤ 15) (ho : o.op = .binOp .and t x y t') (hd : o.dst = some d) (hN : d < N) (hw : wantE ops E o = some true) (hx : ev E x = some (.int .i64 m)) (hy : ev E y = some (.int .i64 15)) : oE P ops C N E ((d, .int .i64 (m % 16)) :: E) o :=
  o_bin ho hd hN hw hx hy fun w => by
    have h' : ∀ n : Fin 17, bits .and .i64 (((n : Nat) : Int) - 1) 15 = (((n : Nat) : Int) - 1) % 16 := by decide +kernel
    obtain ⟨n, rfl⟩ := fin17 h
    rw [binOp_and, intBits_and, h' n]
    rfl
theorem o_or16 {x y : Operand} {t t' : TypeId} {m l : Int} (h : -1 ≤ m ∧ m ≤ 15) (hl : -1 ≤ l ∧ l ≤ 15) (ho : o.op = .binOp .or t x y t') (hd : o.dst = some d) (hN : d < N) (hw : wantE ops E o = some true) (hx : ev E x = some (.int .i64 (m * 16))) (hy : ev E y = some (.int .i64 (l % 16))) : oE P ops C N E ((d, .int .i64 (m * 16 + l % 16)) :: E) o :=
  o_bin ho hd hN hw hx hy fun w => by
    have h' : ∀ n k : Fin 17, bits .or .i64 ((((n : Nat) : Int) - 1) * 16) ((((k : Nat) : Int) - 1) % 16) = (((n : Nat) : Int) - 1) * 16 + (((k : Nat) : Int) - 1) % 16 := by decide +kernel
    obtain ⟨n, rfl⟩ := fin17 h
    obtain ⟨k, rfl⟩ := fin17 hl
    rw [binOp_or, intBits_or, h' n k]
    rfl
theorem byte_wrap {m l : Int} (h : -1 ≤ m ∧ m ≤ 15) (hl : -1 ≤ l ∧ l ≤ 15) : IntKind.u8.wrap (m * 16 + l % 16) = ((byteV m l).toNat : Int) := by
  have h' : ∀ n k : Fin 17, IntKind.u8.wrap ((((n : Nat) : Int) - 1) * 16 + (((k : Nat) : Int) - 1) % 16) = ((byteV (((n : Nat) : Int) - 1) (((k : Nat) : Int) - 1)).toNat : Int) := by decide +kernel
  obtain ⟨n, rfl⟩ := fin17 h
  obtain ⟨k, rfl⟩ := fin17 hl
  exact h' n k
end
theorem ba_get (l : List UInt8) (i : Nat) : (⟨l.toArray⟩ : ByteArray)[i]? = l[i]? := by
  by_cases h : i < l.length
  · rw [List.getElem?_eq_getElem h, getElem?_pos (⟨l.toArray⟩ : ByteArray) i (by rw [ba_size]; exact h)]
    rfl
  · rw [List.getElem?_eq_none (by omega), getElem?_neg (⟨l.toArray⟩ : ByteArray) i (by rw [ba_size]; exact h)]
section
variable {P : Program} {Q : Exit → Act → World → Prop} {N : Nat} {M : List Nat} {W : World} {E : Env} {O : List Atom}
theorem s_loopT {c : Code} {ι : Type} (p : ι → Prop) (m : ι → Nat) (F : ι → Env) (G : ι → List Atom) (i0 : ι) (h0 : p i0) (hE : SubE E (F i0)) (hG : ∀ w, Wd M W O w → Wd M W (G i0) w)
    (hr : ∀ i, p i → sE P (Exit.then (Round p m (m i) N M W F G) Q) N M W (F i) (G i) c) : sE P Q N M W E O (.loop c) := fun a w ha hw => by
  refine wp_loop_ghost (fun n a w => ∃ i, p i ∧ m i = n ∧ Ag N (F i) a ∧ Wd M W (G i) w) (m i0) ⟨i0, h0, rfl, hE.ag ha, hG w hw⟩ ?_
  rintro n a w ⟨i, hp, rfl, ha, hw⟩
  refine wp_mono (hr i hp a w ha hw) ?_
  intro e a' w' hq
  cases e with
  | normal =>
    obtain ⟨j, h1, h2, h3, h4⟩ := hq
    exact ⟨m j, h2, j, h1, rfl, h3, h4⟩
  | exit id => exact hq
  | goto l => exact hq
  | ret => exact hq
  | panic ch => exact hq
  | outgrown => exact hq
theorem x_roundT {ι : Type} {p : ι → Prop} {m : ι → Nat} {n : Nat} {F : ι → Env} {G : ι → List Atom} (j : ι) (hp : p j) (hm : m j < n) (hE : SubE E (F j)) (hG : ∀ w, Wd M W O w → Wd M W (G j) w) : xE (Exit.then (Round p m n N M W F G) Q) N M W E O .normal := fun a w ha hw =>
  ⟨j, hp, hm, hE.ag ha, hG w hw⟩
end
section
variable {P : Program} {ops : Array Oper} {C : World → Prop} {N : Nat} {E : Env} {o : Oper} {d : Nat}
theorem o_rem2 {x y : Operand} {t t' : TypeId} {n : Nat} (hn : n ≤ 1048576) (ho : o.op = .binOp .rem t x y t') (hd : o.dst = some d) (hN : d < N) (hw : wantE ops E o = some true) (hx : ev E x = some (.int .i64 (n : Int))) (hy : ev E y = some (.int .i64 2)) : oE P ops C N E ((d, .int .i64 ((n : Int) % 2)) :: E) o :=
  o_bin ho hd hN hw hx hy fun w => by
    rw [binOp_rem]
    simp [Op.intDiv, go_sem]
    exact IntWalk.rem_in (n : Int) 2 (by omega)
end
def hexOk (x : List UInt8) : Bool := x != [] && (unhex x).isSome
theorem unhex_app {a b : UInt8} : ∀ {l out : List UInt8}, unhex l = some out → unhex (l ++ [a, b]) = if hxAt a < 0 ∨ hxAt b < 0 then none else some (out ++ [hxByte a b])
  | [], out, h => by
    cases h
    show unhex [a, b] = _
    rw [unhex]
    split <;> rfl
  | [_], out, h => by cases h
  | c :: d :: l, out, h => by
    rw [unhex] at h
    split at h
    · cases h
    · next hn =>
      cases hu : unhex l with
      | none => rw [hu] at h; cases h
      | some t =>
        rw [hu] at h
        cases h
        show unhex (c :: d :: (l ++ [a, b])) = _
        rw [unhex, if_neg hn, unhex_app hu]
        split <;> rfl
theorem unhex_no {a b : UInt8} : ∀ {l : List UInt8}, l.length % 2 = 0 → unhex l = none → unhex (l ++ [a, b]) = none
  | [], _, h => by cases h
  | [_], hl, _ => by simp at hl
  | c :: d :: l, hl, h => by
    rw [unhex] at h
    show unhex (c :: d :: (l ++ [a, b])) = _
    rw [unhex]
    split
    · rfl
    · next hn =>
      rw [if_neg hn] at h
      cases hu : unhex l with
      | none => rw [unhex_no (by simp only [List.length_cons] at hl; omega) hu]; rfl
      | some t => rw [hu] at h; cases h
theorem unhex_odd : ∀ {l : List UInt8}, l.length % 2 ≠ 0 → unhex l = none
  | [], h => absurd rfl h
  | [_], _ => rfl
  | c :: d :: l, h => by
    rw [unhex]
    split
    · rfl
    · rw [unhex_odd (by simp only [List.length_cons] at h; omega)]; rfl
structure HxI (x : List UInt8) (b1 : Bool) (y : Nat × Option Addr × Nat × List UInt8 × Bool) : Prop where
  i : y.1 ≤ x.length ∧ y.1 % 2 = 0
  len : y.2.2.2.1.length ≤ y.1
  b : y.2.2.2.2 = (b1 || !((unhex (x.take y.1)).isSome))
  ok : ∀ out, unhex (x.take y.1) = some out → out = y.2.2.2.1
theorem HxI.step {x : List UInt8} {b1 : Bool} {i c c' : Nat} {A A' : Option Addr} {out : List UInt8} {b : Bool} {p q : UInt8} (h : HxI x b1 (i, A, c, out, b)) (hp : x[i]? = some p) (hq : x[i + 1]? = some q) : HxI x b1 (i + 2, A', c', out ++ [byteV (hxAt p) (hxAt q)], b || (decide (hxAt p < 0) || decide (hxAt q < 0))) := by
  have hl : i + 1 < x.length := (List.getElem?_eq_some_iff.1 hq).1
  have htk : x.take (i + 2) = x.take i ++ [p, q] := by
    rw [show i + 2 = i + 1 + 1 by omega, List.take_add_one, List.take_add_one, hp, hq]
    simp
  have hi := h.i
  have hlen := h.len
  have hb := h.b
  have hok := h.ok
  simp only at hi hlen hb hok
  refine ⟨⟨by show i + 2 ≤ _; omega, by show (i + 2) % 2 = 0; omega⟩, by show (out ++ _).length ≤ i + 2; rw [List.length_append]; simp only [List.length_cons, List.length_nil]; omega, ?_, ?_⟩
  · show (b || _) = (b1 || !((unhex (x.take (i + 2))).isSome))
    rw [htk, hb]
    cases hu : unhex (x.take i) with
    | none =>
      rw [unhex_no (by rw [List.length_take]; omega) hu]
      simp
    | some o =>
      rw [unhex_app hu]
      by_cases h1 : hxAt p < 0
      · simp [h1]
      · by_cases h2 : hxAt q < 0
        · simp [h2]
        · simp [h1, h2]
  · intro o ho
    show o = out ++ [byteV (hxAt p) (hxAt q)]
    have ho' : unhex (x.take (i + 2)) = some o := ho
    rw [htk] at ho'
    cases hu : unhex (x.take i) with
    | none => rw [unhex_no (by rw [List.length_take]; omega) hu] at ho'; cases ho'
    | some o1 =>
      rw [unhex_app hu] at ho'
      split at ho'
      · cases ho'
      · next hn =>
        cases ho'
        rw [hok o1 hu, byteV_hx (fun h2 => hn (.inr h2))]
section
variable {M : List Nat} {W w : World} {O : List Atom} {br bw q N k c : Nat} {bad : Bool} {ws ns : List (List UInt8)} {A : Option Addr}
abbrev HxY : Type := (Nat × Nat) × Option Addr × Nat × List UInt8 × Bool
set_option maxRecDepth 100000 in
set_option maxHeartbeats 16000000 in
theorem hex_wd (hall : ∀ s ∈ ws, s.length ≤ 1048576) (hN : ws.length = N) (hq : k < N → q = k) (hk : k ≤ N) (hn : N ≤ 1048576) (hw : Wd M W (rdO br bw q N k bad ws A c ns ++ O) w) :
    Calls Tryz.prog 78 #[.pointer (some ⟨br, 0, none⟩)] w (CallEnd (fun y : HxY => .slice y.2.1 y.2.2.2.1.length y.2.2.1) (fun y => (y.1.1 = min (k + 1) N ∧ (y.1.1 < N → y.1.2 = y.1.1)) ∧ y.2.2.2.2 = ((bad || decide (N ≤ k)) || !(hexOk (wAt ws k))) ∧ (∀ out, unhex (wAt ws k) = some out → wAt ws k ≠ [] → out = y.2.2.2.1)) M W (fun y => .row y.2.1 y.2.2.2.1.length y.2.2.1 5 1 (bv y.2.2.2.1) :: (rdO br bw y.1.2 N y.1.1 y.2.2.2.2 ws A c ns ++ O))) := by
  have hxl := wAt_len hall k
  obtain ⟨x, hx⟩ : ∃ x, wAt ws k = x := ⟨_, rfl⟩
  obtain ⟨b1, hb1⟩ : ∃ b1, (bad || decide (N ≤ k)) = b1 := ⟨_, rfl⟩
  have HX := Lib.hid hx
  have HB := Lib.hid hb1
  rw [hx] at hxl
  rw [hx, hb1]
  clear hx hb1 hall
  have hsz := ba_size x
  go_enter Tryz.func78, Tryz.ntmps78
  refine s_go (M := M) (W := W) (N := 61) (E := [(0, .pointer (some ⟨br, 0, none⟩))]) (O := rdO br bw q N k bad ws A c ns ++ O) ?_ (Ag.cons (Ag.nil rfl rfl) rfl) hw
  by_cases he : x = []
  · have he1 : ((⟨x.toArray⟩ : ByteArray).data.toList == (⟨#[]⟩ : ByteArray).data.toList) = true := by rw [he]; rfl
    repeat (first | refine l_op (o_move rfl rfl (by decide) rfl rfl) ?_ | refine l_op (o_assign rfl rfl (by decide) rfl rfl) ?_ | refine l_op (o_fieldAddr rfl rfl (by decide) rfl rfl) ?_ | refine l_op (o_skip rfl (by decide) rfl) ?_ | (refine l_loud (u_call _ _ _ (f := 75) rfl rfl rfl (fun w hw => next_wd hN hq hk hn hw)) rfl (by decide) (fun y hy => ?_); rw [HX.out, HB.out]) | refine l_op (o_nil rfl rfl (by decide) rfl rfl) ?_ | refine l_loud0 (u_store 0 rfl rfl rfl rfl rfl rfl rfl) rfl (fun _ _ => ?_) | refine l_nil ?_ | refine s_seq ?_ | refine s_region ?_ | refine s_cond_true rfl ?_ | refine s_ret ?_ | refine x_then_ret ?_ | refine l_op (o_pick_yes rfl rfl (by decide) rfl rfl rfl) ?_ | refine l_op (o_seql rfl rfl (by decide) rfl rfl rfl (by first | assumption | rfl)) ?_)
    refine x_body1 (by first | exact .inl rfl | exact .inr rfl) rfl (.tmp rfl) (fun w hw => ⟨(y, none, 0, [], true), rfl, ⟨hy, ?_, fun out _ h => absurd he h⟩, hw.row 5 1⟩)
    show true = (b1 || !(hexOk x))
    rw [he]
    cases b1 <;> rfl
  have he1 : ((⟨x.toArray⟩ : ByteArray).data.toList == (⟨#[]⟩ : ByteArray).data.toList) = false := beq_eq_false_iff_ne.2 (by simpa using he)
  by_cases hodd : x.length % 2 = 1
  · skip
    repeat (first | refine l_op (o_move rfl rfl (by decide) rfl rfl) ?_ | refine l_op (o_assign rfl rfl (by decide) rfl rfl) ?_ | refine l_op (o_fieldAddr rfl rfl (by decide) rfl rfl) ?_ | (refine l_loud (u_call _ _ _ (f := 75) rfl rfl rfl (fun w hw => next_wd hN hq hk hn hw)) rfl (by decide) (fun y hy => ?_); rw [HX.out, HB.out]) | refine l_op (o_rem2 (by omega) rfl rfl (by decide) rfl rfl rfl) ?_ | refine l_op (o_nil rfl rfl (by decide) rfl rfl) ?_ | refine l_loud0 (u_store 0 rfl rfl rfl rfl rfl rfl rfl) rfl (fun _ _ => ?_) | refine l_nil ?_ | refine s_seq ?_ | refine s_region ?_ | refine s_cond_true rfl ?_ | refine s_ret ?_ | refine x_then_ret ?_ | refine l_op (o_slen Tryz.underlying9 rfl rfl (by decide) rfl rfl) ?_ | refine l_op (o_neq rfl rfl (by decide) rfl rfl rfl (by first | assumption | exact bne_iff_ne.2 (by omega) | exact bne_eq_false_iff_eq.2 (by omega) | rfl)) ?_ | refine l_op (o_pick_no rfl rfl (by decide) rfl rfl rfl) ?_ | refine l_op (o_seql rfl rfl (by decide) rfl rfl rfl (by first | assumption | rfl)) ?_)
    refine x_body1 (by first | exact .inl rfl | exact .inr rfl) rfl (.tmp rfl) (fun w hw => ⟨(y, none, 0, [], true), rfl, ⟨hy, ?_, fun out ho _ => ?_⟩, hw.row 5 1⟩)
    · show true = (b1 || !(hexOk x))
      unfold hexOk
      rw [unhex_odd (by omega)]
      cases b1 <;> simp
    · rw [unhex_odd (by omega)] at ho
      cases ho
  repeat (first | refine l_op (o_move rfl rfl (by decide) rfl rfl) ?_ | refine l_op (o_assign rfl rfl (by decide) rfl rfl) ?_ | (refine l_loud (u_call _ _ _ (f := 75) rfl rfl rfl (fun w hw => next_wd hN hq hk hn hw)) rfl (by decide) (fun y hy => ?_); rw [HX.out, HB.out]) | refine l_op (o_rem2 (by omega) rfl rfl (by decide) rfl rfl rfl) ?_ | refine l_nil ?_ | refine s_seq ?_ | refine s_region ?_ | refine s_skip ?_ | refine s_cond_false rfl ?_ | refine s_block ?_ | refine l_op (o_slen Tryz.underlying9 rfl rfl (by decide) rfl rfl) ?_ | refine l_op (o_neq rfl rfl (by decide) rfl rfl rfl (by first | assumption | exact bne_iff_ne.2 (by omega) | exact bne_eq_false_iff_eq.2 (by omega) | rfl)) ?_ | refine l_op (o_pick_no rfl rfl (by decide) rfl rfl rfl) ?_ | refine l_op (o_seql rfl rfl (by decide) rfl rfl rfl (by first | assumption | rfl)) ?_)
  obtain ⟨k1, q1⟩ := y
  have HY := Lib.hid hy
  clear hy
  refine s_row 5 1 ?_
  refine s_loopT (ι := Nat × Option Addr × Nat × List UInt8 × Bool) (HxI x b1) (fun y => x.length - y.1) (fun y => [(0, .pointer (some ⟨br, 0, none⟩)), (3, .string ⟨x.toArray⟩), (4, .slice y.2.1 y.2.2.2.1.length y.2.2.1), (5, .int .i64 (y.1 : Int))]) (fun y => .row y.2.1 y.2.2.2.1.length y.2.2.1 5 1 (bv y.2.2.2.1) :: (rdO br bw q1 N k1 y.2.2.2.2 ws A c ns ++ O)) (0, none, 0, [], b1) ⟨⟨Nat.zero_le _, rfl⟩, Nat.le_refl _, by show b1 = (b1 || false); rw [Bool.or_false], fun out ho => by cases ho; rfl⟩ (.cons rfl rfl (.cons rfl rfl (.cons rfl rfl (.cons rfl rfl .nil)))) (fun w hw => hw) ?_
  rintro ⟨i, A', c', out, b⟩ hinv
  have hi1 : i ≤ x.length := hinv.i.1
  have hi2 : i % 2 = 0 := hinv.i.2
  have hol : out.length ≤ i := hinv.len
  have HI := Lib.hid hinv
  clear hinv
  show sE _ _ _ _ _ [(0, .pointer (some ⟨br, 0, none⟩)), (3, .string ⟨x.toArray⟩), (4, .slice A' out.length c'), (5, .int .i64 (i : Int))] (.row A' out.length c' 5 1 (bv out) :: (rdO br bw q1 N k1 b ws A c ns ++ O)) _
  by_cases hin : i < x.length
  · have hin1 : i + 1 < x.length := by omega
    obtain ⟨p, hp⟩ : ∃ p, x[i]? = some p := ⟨_, List.getElem?_eq_getElem hin⟩
    obtain ⟨r, hr⟩ : ∃ r, x[i + 1]? = some r := ⟨_, List.getElem?_eq_getElem hin1⟩
    have hstep := fun A2 c2 => HI.out.step (A' := A2) (c' := c2) hp hr
    have hp' : (⟨x.toArray⟩ : ByteArray)[((i : Int)).toNat]? = some p := by rw [Int.toNat_natCast, ba_get]; exact hp
    have hr' : (⟨x.toArray⟩ : ByteArray)[((i : Int) + 1).toNat]? = some r := by rw [show ((i : Int) + 1).toNat = i + 1 by omega, ba_get]; exact hr
    have hpi := hxAt_in p
    have hri := hxAt_in r
    obtain ⟨u, hu⟩ : ∃ u, decide (hxAt p < 0) = u := ⟨_, rfl⟩
    obtain ⟨v, hv⟩ : ∃ v, decide (hxAt r < 0) = v := ⟨_, rfl⟩
    rw [hu, hv] at hstep
    have HST := Lib.hid hstep
    clear hstep hp hr
    cases b with
    | true =>
      repeat (first | refine l_op (o_move rfl rfl (by decide) rfl rfl) ?_ | refine l_nil ?_ | refine s_seq ?_ | refine s_region ?_ | refine s_skip ?_ | refine s_cond_true rfl ?_ | refine s_block ?_ | refine l_op (o_slen Tryz.underlying9 rfl rfl (by decide) rfl rfl) ?_ | refine l_op (o_lss rfl rfl (by decide) rfl rfl rfl (by first | assumption | exact decide_eq_true (by omega) | exact decide_eq_false (by omega) | rfl)) ?_)
      repeat (first | refine q_op (o_move rfl rfl (by decide) rfl rfl) ?_ | refine q_op (o_assign rfl rfl (by decide) rfl rfl) ?_ | refine q_op (o_sindex Tryz.underlying9 rfl rfl (by decide) rfl rfl rfl (by omega) hp') ?_ | refine q_op (o_sindex Tryz.underlying9 rfl rfl (by decide) rfl rfl rfl (by omega) hr') ?_ | refine q_op (o_call (f := 110) rfl rfl (by decide) rfl rfl (fun w hw => idxbyte_calls _ w)) ?_ | refine q_end ?_ | refine s_draw (by kernel_rfl) (by kernel_rfl) ?_ | refine q_op (o_add (k := .i64) rfl rfl (by decide) rfl rfl rfl (IntWalk.i64_in _ (by omega))) ?_)
      repeat (first | refine l_op (o_move rfl rfl (by decide) rfl rfl) ?_ | refine l_op (o_assign rfl rfl (by decide) rfl rfl) ?_ | refine l_op (o_fieldAddr rfl rfl (by decide) rfl rfl) ?_ | refine l_op (o_skip rfl (by decide) rfl) ?_ | refine l_op (o_load rfl rfl (by decide) rfl rfl (by first | exact fun w hw => hw.cell_blkL 0 rfl rfl | exact fun w hw => hw.cell_blkL 1 rfl rfl | exact fun w hw => hw.cell_blkL 2 rfl rfl | exact fun w hw => hw.cell_blkL 3 rfl rfl | exact fun w hw => hw.cell_blkL 4 rfl rfl | exact fun w hw => hw.cell_blkL 5 rfl rfl | exact fun w hw => hw.cell_old (by assumption) (by simp) | exact fun w hw => hw.cell_range (by assumption) rfl (by simp))) ?_ | refine l_op (o_nil rfl rfl (by decide) rfl rfl) ?_ | refine l_op (o_shl4 hpi rfl rfl (by decide) rfl rfl rfl) ?_ | refine l_op (o_and15 hri rfl rfl (by decide) rfl rfl rfl) ?_ | refine l_op (o_or16 hpi hri rfl rfl (by decide) rfl rfl rfl) ?_ | refine l_op (o_conv rfl rfl (by decide) rfl rfl (by kernel_rfl) Tryz.underlying5 (byte_wrap hpi hri)) ?_ | refine l_loud0 (u_store 1 rfl rfl rfl rfl rfl rfl rfl) rfl (fun _ _ => ?_) | refine l_loud (u_slice1 (size := 1) (cs := bv [byteV (hxAt p) (hxAt r)]) rfl rfl rfl rfl rfl (by decide)) rfl (by decide) (fun bn _ => ?_) | refine l_loud (u_append (news := bv [byteV (hxAt p) (hxAt r)]) 1 rfl rfl rfl rfl rfl (fun w hw => hw.rd_blk 0 rfl rfl) (by simp [bv, Value.oneCell']) (by omega)) rfl (by decide) (fun yz _ => ?_) | refine l_nil ?_ | refine s_seq ?_ | refine s_region ?_ | refine l_op (o_pick_yes rfl rfl (by decide) rfl rfl rfl) ?_ | refine l_op (o_add (k := .i64) rfl rfl (by decide) rfl rfl rfl (IntWalk.i64_in _ (by omega))) ?_)
      refine x_roundT (i + 2, yz.1, yz.2, out ++ [byteV (hxAt p) (hxAt r)], true || (u || v)) (HST.out yz.1 yz.2) (by show x.length - (i + 2) < x.length - i; omega) (.cons rfl rfl (.cons rfl rfl (.cons rfl (by rw [List.length_append]; rfl) (.cons rfl (by go_num) .nil)))) (fun w hw => ?_)
      have h := hw.tail
      show Wd M W (.row yz.1 (out ++ [byteV (hxAt p) (hxAt r)]).length yz.2 5 1 (bv (out ++ [byteV (hxAt p) (hxAt r)])) :: (rdO br bw q1 N k1 (true || (u || v)) ws A c ns ++ O)) w
      rw [List.length_append, bv_app]
      exact h
    | false =>
      cases u with
      | true =>
        repeat (first | refine l_op (o_move rfl rfl (by decide) rfl rfl) ?_ | refine l_nil ?_ | refine s_seq ?_ | refine s_region ?_ | refine s_skip ?_ | refine s_cond_true rfl ?_ | refine s_block ?_ | refine l_op (o_slen Tryz.underlying9 rfl rfl (by decide) rfl rfl) ?_ | refine l_op (o_lss rfl rfl (by decide) rfl rfl rfl (by first | assumption | exact decide_eq_true (by omega) | exact decide_eq_false (by omega) | rfl)) ?_)
        repeat (first | refine q_op (o_move rfl rfl (by decide) rfl rfl) ?_ | refine q_op (o_assign rfl rfl (by decide) rfl rfl) ?_ | refine q_op (o_sindex Tryz.underlying9 rfl rfl (by decide) rfl rfl rfl (by omega) hp') ?_ | refine q_op (o_sindex Tryz.underlying9 rfl rfl (by decide) rfl rfl rfl (by omega) hr') ?_ | refine q_op (o_call (f := 110) rfl rfl (by decide) rfl rfl (fun w hw => idxbyte_calls _ w)) ?_ | refine q_end ?_ | refine s_draw (by kernel_rfl) (by kernel_rfl) ?_ | refine q_op (o_add (k := .i64) rfl rfl (by decide) rfl rfl rfl (IntWalk.i64_in _ (by omega))) ?_)
        repeat (first | refine l_op (o_move rfl rfl (by decide) rfl rfl) ?_ | refine l_op (o_assign rfl rfl (by decide) rfl rfl) ?_ | refine l_op (o_fieldAddr rfl rfl (by decide) rfl rfl) ?_ | refine l_op (o_skip rfl (by decide) rfl) ?_ | refine l_op (o_load rfl rfl (by decide) rfl rfl (by first | exact fun w hw => hw.cell_blkL 0 rfl rfl | exact fun w hw => hw.cell_blkL 1 rfl rfl | exact fun w hw => hw.cell_blkL 2 rfl rfl | exact fun w hw => hw.cell_blkL 3 rfl rfl | exact fun w hw => hw.cell_blkL 4 rfl rfl | exact fun w hw => hw.cell_blkL 5 rfl rfl | exact fun w hw => hw.cell_old (by assumption) (by simp) | exact fun w hw => hw.cell_range (by assumption) rfl (by simp))) ?_ | refine l_op (o_nil rfl rfl (by decide) rfl rfl) ?_ | refine l_op (o_shl4 hpi rfl rfl (by decide) rfl rfl rfl) ?_ | refine l_op (o_and15 hri rfl rfl (by decide) rfl rfl rfl) ?_ | refine l_op (o_or16 hpi hri rfl rfl (by decide) rfl rfl rfl) ?_ | refine l_op (o_conv rfl rfl (by decide) rfl rfl (by kernel_rfl) Tryz.underlying5 (byte_wrap hpi hri)) ?_ | refine l_loud0 (u_store 1 rfl rfl rfl rfl rfl rfl rfl) rfl (fun _ _ => ?_) | refine l_loud (u_slice1 (size := 1) (cs := bv [byteV (hxAt p) (hxAt r)]) rfl rfl rfl rfl rfl (by decide)) rfl (by decide) (fun bn _ => ?_) | refine l_loud (u_append (news := bv [byteV (hxAt p) (hxAt r)]) 1 rfl rfl rfl rfl rfl (fun w hw => hw.rd_blk 0 rfl rfl) (by simp [bv, Value.oneCell']) (by omega)) rfl (by decide) (fun yz _ => ?_) | refine l_nil ?_ | refine s_seq ?_ | refine s_region ?_ | refine l_op (o_lss rfl rfl (by decide) rfl rfl rfl (by first | assumption | exact decide_eq_true (by omega) | exact decide_eq_false (by omega) | rfl)) ?_ | refine l_op (o_pick_yes rfl rfl (by decide) rfl rfl rfl) ?_ | refine l_op (o_pick_no rfl rfl (by decide) rfl rfl rfl) ?_ | refine l_op (o_add (k := .i64) rfl rfl (by decide) rfl rfl rfl (IntWalk.i64_in _ (by omega))) ?_)
        refine x_roundT (i + 2, yz.1, yz.2, out ++ [byteV (hxAt p) (hxAt r)], false || (true || v)) (HST.out yz.1 yz.2) (by show x.length - (i + 2) < x.length - i; omega) (.cons rfl rfl (.cons rfl rfl (.cons rfl (by rw [List.length_append]; rfl) (.cons rfl (by go_num) .nil)))) (fun w hw => ?_)
        have h := hw.tail
        show Wd M W (.row yz.1 (out ++ [byteV (hxAt p) (hxAt r)]).length yz.2 5 1 (bv (out ++ [byteV (hxAt p) (hxAt r)])) :: (rdO br bw q1 N k1 (false || (true || v)) ws A c ns ++ O)) w
        rw [List.length_append, bv_app]
        exact h
      | false =>
        repeat (first | refine l_op (o_move rfl rfl (by decide) rfl rfl) ?_ | refine l_nil ?_ | refine s_seq ?_ | refine s_region ?_ | refine s_skip ?_ | refine s_cond_true rfl ?_ | refine s_block ?_ | refine l_op (o_slen Tryz.underlying9 rfl rfl (by decide) rfl rfl) ?_ | refine l_op (o_lss rfl rfl (by decide) rfl rfl rfl (by first | assumption | exact decide_eq_true (by omega) | exact decide_eq_false (by omega) | rfl)) ?_)
        repeat (first | refine q_op (o_move rfl rfl (by decide) rfl rfl) ?_ | refine q_op (o_assign rfl rfl (by decide) rfl rfl) ?_ | refine q_op (o_sindex Tryz.underlying9 rfl rfl (by decide) rfl rfl rfl (by omega) hp') ?_ | refine q_op (o_sindex Tryz.underlying9 rfl rfl (by decide) rfl rfl rfl (by omega) hr') ?_ | refine q_op (o_call (f := 110) rfl rfl (by decide) rfl rfl (fun w hw => idxbyte_calls _ w)) ?_ | refine q_end ?_ | refine s_draw (by kernel_rfl) (by kernel_rfl) ?_ | refine q_op (o_add (k := .i64) rfl rfl (by decide) rfl rfl rfl (IntWalk.i64_in _ (by omega))) ?_)
        repeat (first | refine l_op (o_move rfl rfl (by decide) rfl rfl) ?_ | refine l_op (o_assign rfl rfl (by decide) rfl rfl) ?_ | refine l_op (o_fieldAddr rfl rfl (by decide) rfl rfl) ?_ | refine l_op (o_load rfl rfl (by decide) rfl rfl (by first | exact fun w hw => hw.cell_blkL 0 rfl rfl | exact fun w hw => hw.cell_blkL 1 rfl rfl | exact fun w hw => hw.cell_blkL 2 rfl rfl | exact fun w hw => hw.cell_blkL 3 rfl rfl | exact fun w hw => hw.cell_blkL 4 rfl rfl | exact fun w hw => hw.cell_blkL 5 rfl rfl | exact fun w hw => hw.cell_old (by assumption) (by simp) | exact fun w hw => hw.cell_range (by assumption) rfl (by simp))) ?_ | refine l_op (o_nil rfl rfl (by decide) rfl rfl) ?_ | refine l_op (o_shl4 hpi rfl rfl (by decide) rfl rfl rfl) ?_ | refine l_op (o_and15 hri rfl rfl (by decide) rfl rfl rfl) ?_ | refine l_op (o_or16 hpi hri rfl rfl (by decide) rfl rfl rfl) ?_ | refine l_op (o_conv rfl rfl (by decide) rfl rfl (by kernel_rfl) Tryz.underlying5 (byte_wrap hpi hri)) ?_ | refine l_loud0 (u_store 1 rfl rfl rfl rfl rfl rfl rfl) rfl (fun _ _ => ?_) | refine l_loud (u_slice1 (size := 1) (cs := bv [byteV (hxAt p) (hxAt r)]) rfl rfl rfl rfl rfl (by decide)) rfl (by decide) (fun bn _ => ?_) | refine l_loud (u_append (news := bv [byteV (hxAt p) (hxAt r)]) 1 rfl rfl rfl rfl rfl (fun w hw => hw.rd_blk 0 rfl rfl) (by simp [bv, Value.oneCell']) (by omega)) rfl (by decide) (fun yz _ => ?_) | refine l_nil ?_ | refine s_seq ?_ | refine s_region ?_ | refine l_op (o_lss rfl rfl (by decide) rfl rfl rfl (by first | assumption | exact decide_eq_true (by omega) | exact decide_eq_false (by omega) | rfl)) ?_ | refine l_op (o_pick_no rfl rfl (by decide) rfl rfl rfl) ?_ | refine l_op (o_add (k := .i64) rfl rfl (by decide) rfl rfl rfl (IntWalk.i64_in _ (by omega))) ?_)
        refine x_roundT (i + 2, yz.1, yz.2, out ++ [byteV (hxAt p) (hxAt r)], false || (false || v)) (HST.out yz.1 yz.2) (by show x.length - (i + 2) < x.length - i; omega) (.cons rfl rfl (.cons rfl rfl (.cons rfl (by rw [List.length_append]; rfl) (.cons rfl (by go_num) .nil)))) (fun w hw => ?_)
        have h := hw.tail
        show Wd M W (.row yz.1 (out ++ [byteV (hxAt p) (hxAt r)]).length yz.2 5 1 (bv (out ++ [byteV (hxAt p) (hxAt r)])) :: (rdO br bw q1 N k1 (false || (false || v)) ws A c ns ++ O)) w
        rw [List.length_append, bv_app]
        exact h
  · obtain rfl : i = x.length := by omega
    have hb := HI.out.b
    have hok := HI.out.ok
    simp only [List.take_length] at hb hok
    repeat (first | refine l_op (o_move rfl rfl (by decide) rfl rfl) ?_ | refine l_op (o_assign rfl rfl (by decide) rfl rfl) ?_ | refine l_nil ?_ | refine s_seq ?_ | refine s_region ?_ | refine s_cond_false rfl ?_ | refine s_exit ?_ | refine s_ret ?_ | refine l_op (o_slen Tryz.underlying9 rfl rfl (by decide) rfl rfl) ?_ | refine l_op (o_lss rfl rfl (by decide) rfl rfl rfl (by first | assumption | exact decide_eq_true (by omega) | exact decide_eq_false (by omega) | rfl)) ?_)
    refine x_body1 (by first | exact .inl rfl | exact .inr rfl) rfl (.tmp rfl) (fun w hw => ⟨((k1, q1), A', c', out, b), rfl, ⟨HY.out, ?_, fun o ho _ => hok o ho⟩, hw⟩)
    show b = (b1 || !(hexOk x))
    unfold hexOk
    rw [hb, show (x != []) = true from bne_iff_ne.2 he, Bool.true_and]
end
end Go.Proofs.YtgdiadednlajgaaGreatDoor
