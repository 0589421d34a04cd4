import Derived.Test.YtgdiadednlajgaaGreatDoorChecked
import Derived.Test.YtgdiadednlajgaaGreatDoorP1
import Derived.Lib.Bytealg
import Derived.Laws.RangeAny
import Derived.LoopN
import Derived.Lib.Strings
import Derived.WalkMore
import Derived.RegionTactic
import Derived.Deep.QuietTactic
import Derived.BigQuiet
import Derived.Deep.DeepCutAuto
import Derived.Deep.RegionHeld3
namespace Go.Proofs.YtgdiadednlajgaaGreatDoor
open Go.RowKit
set_option linter.unusedVariables false
set_option linter.unusedSimpArgs false
theorem quiet_l {P : Program} {f : FuncId} {args : Array Value} {w : World} {n : Nat} {v : Value} (h : Calls P f args (w.drewN n) fun e w' => e = .returned v ∧ w.drewN n = w') : Calls P f args (w.drewN n) fun e w'' => e = .returned v ∧ ∃ m, w'' = w.drewN m :=
  h.mono fun _ _ ⟨he, hm⟩ => ⟨he, n, hm.symm⟩
theorem quiet_al {P : Program} {f : FuncId} {args : Array Value} {w : World} {a n : Nat} {v : Value} (h : Calls P f args (w.drewN (a + n)) fun e w' => e = .returned v ∧ w.drewN (a + n) = w') : Calls P f args (w.drewN (a + n)) fun e w'' => e = .returned v ∧ ∃ m, w'' = w.drewN (a + m) :=
  h.mono fun _ _ ⟨he, hm⟩ => ⟨he, n, hm.symm⟩
theorem below_drewN (w : World) (n : Nat) : Below w.heap.size w (w.drewN n) := by
  induction n with
  | zero => exact Below.refl _ _
  | succ n ih => exact ih.drew
theorem ibs_run (s : ByteArray) (c : Int) (w : World) : (callFunc 142 #[.string s, .int .u8 c]).run Tryz.prog w = .ok (.value (.int .i64 (Lib.indexByte s.data.toList c.toNat.toUInt8))) w := by
  rw [run_callFunc_extern Tryz.func142 (e := Extern.BytealgIndexByte.indexByte) (by kernel_rfl) (by kernel_rfl) (by kernel_rfl) (by kernel_rfl), Lib.run_indexByteString]
  rfl
theorem sliteIndexByte_calls (s : ByteArray) (c : Int) (w : World) : Calls Tryz.prog 122 #[.string s, .int .u8 c] w fun e w' => e = .returned (.int .i64 (Lib.indexByte s.data.toList c.toNat.toUInt8)) ∧ w = w' := by
  have hr := ibs_run s c
  go_enter Tryz.func122, Tryz.ntmps122
  go_wp2
  go_ret
  exact ⟨rfl, rfl⟩
theorem indexByte_calls (s : ByteArray) (c : Int) (w : World) : Calls Tryz.prog 110 #[.string s, .int .u8 c] w fun e w' => e = .returned (.int .i64 (Lib.indexByte s.data.toList c.toNat.toUInt8)) ∧ w = w' := by
  go_enter Tryz.func110, Tryz.ntmps110
  go_wp2_with fail
  refine (sliteIndexByte_calls s c _).mono ?_
  rintro e w' ⟨rfl, rfl⟩
  go_wp2_with fail
  go_ret
  exact ⟨rfl, rfl⟩
def sgn : ByteArray := ⟨#[45, 95, 46]⟩
def isSgn (c : UInt8) : Bool := c == 45 || c == 95 || c == 46
theorem sgn_index (c : UInt8) : decide (0 ≤ Lib.indexByte sgn.data.toList c) = isSgn c := by
  by_cases h1 : c = 45
  · subst h1; decide
  · by_cases h2 : c = 95
    · subst h2; decide
    · by_cases h3 : c = 46
      · subst h3; decide
      · have e : isSgn c = false := by simp [isSgn, h1, h2, h3]
        rw [e]
        simp [sgn, Lib.indexByte, Ne.symm h1, Ne.symm h2, Ne.symm h3]
set_option maxRecDepth 100000 in
theorem indexRune_ascii (s : ByteArray) (c : UInt8) (w : World) (h : c.toNat < 128) : Calls Tryz.prog 130 #[.string s, .int .i32 (c.toNat : Int)] w fun e w' => e = .returned (.int .i64 (Lib.indexByte s.data.toList c)) ∧ w = w' := by
  have h0 : (0 : Int) ≤ (c.toNat : Int) := by omega
  have h1 : (c.toNat : Int) < 128 := by omega
  have HC := Lib.hid (show ((c.toNat : Int).toNat).toUInt8 = c by simp)
  go_enter Tryz.func130, Tryz.ntmps130
  go_wp2_with fail
  refine (indexByte_calls s (c.toNat : Int) _).mono ?_
  rintro e w' ⟨rfl, rfl⟩
  rw [HC.out]
  go_wp2_with fail
  go_ret
  exact ⟨rfl, rfl⟩
set_option maxRecDepth 100000 in
theorem indexRune_err (w : World) : Calls Tryz.prog 130 #[.string sgn, .int .i32 65533] w fun e w' => e = .returned (.int .i64 (-1)) ∧ Below w.heap.size w w' := by
  unfold sgn
  have n0 : ∀ ty, (Instr.next (.pointer (some ⟨w.heap.size, 0, none⟩)) true ty).run Tryz.prog (w.iter ⟨#[45, 95, 46]⟩ 0) = .ok (.tuple #[.bool true, .int .i64 0, .int .i32 45]) (w.iter ⟨#[45, 95, 46]⟩ 1) := fun ty => run_next_ascii w _ 0 ty (by decide) (by decide)
  have n1 : ∀ ty, (Instr.next (.pointer (some ⟨w.heap.size, 0, none⟩)) true ty).run Tryz.prog (w.iter ⟨#[45, 95, 46]⟩ 1) = .ok (.tuple #[.bool true, .int .i64 1, .int .i32 95]) (w.iter ⟨#[45, 95, 46]⟩ 2) := fun ty => run_next_ascii w _ 1 ty (by decide) (by decide)
  have n2 : ∀ ty, (Instr.next (.pointer (some ⟨w.heap.size, 0, none⟩)) true ty).run Tryz.prog (w.iter ⟨#[45, 95, 46]⟩ 2) = .ok (.tuple #[.bool true, .int .i64 2, .int .i32 46]) (w.iter ⟨#[45, 95, 46]⟩ 3) := fun ty => run_next_ascii w _ 2 ty (by decide) (by decide)
  have n3 : ∀ ty, (Instr.next (.pointer (some ⟨w.heap.size, 0, none⟩)) true ty).run Tryz.prog (w.iter ⟨#[45, 95, 46]⟩ 3) = .ok (.tuple #[.bool false]) (w.iter ⟨#[45, 95, 46]⟩ 3) := fun ty => run_next_end w _ 3 ty (by decide)
  go_enter Tryz.func130, Tryz.ntmps130
  go_wp2_with fail
  refine wp_loop_rounds 4 ?_
  rw [rounds_succ]
  go_wp2_with fail
  rw [rounds_succ]
  go_wp2_with fail
  rw [rounds_succ]
  go_wp2_with fail
  rw [rounds_succ]
  go_wp2_with fail
  go_ret
  exact ⟨rfl, (Below.refl _ _).alloc (Nat.le_refl _) _⟩
theorem validRune_low (r : Nat) (w : World) (h : r < 55296) : Calls Tryz.prog 148 #[.int .i32 (r : Int)] w fun e w' => e = .returned (.bool true) ∧ w = w' := by
  have h0 : (0 : Int) ≤ (r : Int) := by omega
  have h1 : (r : Int) < 55296 := by omega
  go_enter Tryz.func148, Tryz.ntmps148
  go_wp2
  go_ret
  exact ⟨rfl, rfl⟩
theorem validRune_high (r : Nat) (w : World) (h : 57343 < r) (h' : r ≤ 1114111) : Calls Tryz.prog 148 #[.int .i32 (r : Int)] w fun e w' => e = .returned (.bool true) ∧ w = w' := by
  have h0 : (0 : Int) ≤ (r : Int) := by omega
  have h1 : ¬ (r : Int) < 55296 := by omega
  have h2 : (57343 : Int) < r := by omega
  have h3 : (r : Int) ≤ 1114111 := by omega
  go_enter Tryz.func148, Tryz.ntmps148
  go_wp2
  go_ret
  exact ⟨rfl, rfl⟩
theorem validRune_no (r : Nat) (w : World) (h : ¬ r < 55296) (h' : ¬ (57343 < r ∧ r ≤ 1114111)) : Calls Tryz.prog 148 #[.int .i32 (r : Int)] w fun e w' => e = .returned (.bool false) ∧ w = w' := by
  have h0 : (0 : Int) ≤ (r : Int) := by omega
  have h1 : ¬ (r : Int) < 55296 := by omega
  by_cases h4 : 57343 < r
  · have h2 : (57343 : Int) < r := by omega
    have h3 : ¬ (r : Int) ≤ 1114111 := by omega
    clear h'
    go_enter Tryz.func148, Tryz.ntmps148
    go_wp2
    go_ret
    exact ⟨rfl, rfl⟩
  · have h2 : ¬ (57343 : Int) < r := by omega
    clear h'
    go_enter Tryz.func148, Tryz.ntmps148
    go_wp2
    go_ret
    exact ⟨rfl, rfl⟩
set_option maxRecDepth 100000 in
theorem indexRune_inval (r : Nat) (w : World) (h : 128 ≤ r) (h1' : ¬ r < 55296) (h' : ¬ (57343 < r ∧ r ≤ 1114111)) : Calls Tryz.prog 130 #[.string sgn, .int .i32 (r : Int)] w fun e w' => e = .returned (.int .i64 (-1)) ∧ Below w.heap.size w w' := by
  have h0 : (0 : Int) ≤ (r : Int) := by omega
  have h1 : ¬ (r : Int) < 128 := by omega
  have h2 : ((r : Int) == 65533) = false := by simp; omega
  have HV := Lib.hid (validRune_no r w h1' h')
  clear h'
  unfold sgn
  go_enter Tryz.func130, Tryz.ntmps130
  go_wp2_with fail
  refine HV.out.mono ?_
  rintro e w' ⟨rfl, rfl⟩
  go_wp2_with fail
  go_ret
  exact ⟨rfl, Below.refl _ _⟩
theorem rune_bytes (r : Nat) (h : 128 ≤ r) (hv : r < 55296 ∨ (57343 < r ∧ r ≤ 1114111)) : (∃ x y : UInt8, Utf8.encode (r : Int) = ⟨#[x, y]⟩ ∧ 128 ≤ y.toNat) ∨ (∃ x y z : UInt8, Utf8.encode (r : Int) = ⟨#[x, y, z]⟩ ∧ 128 ≤ z.toNat) ∨ (∃ x y z u : UInt8, Utf8.encode (r : Int) = ⟨#[x, y, z, u]⟩ ∧ 128 ≤ u.toNat) := by
  have hval : Utf8.valid (r : Int) = true := by
    unfold Utf8.valid
    simp
    omega
  have key : ∀ n : Nat, 128 ≤ (UInt8.ofNat (128 + n % 64)).toNat := fun n => by rw [UInt8.toNat_ofNat', Nat.mod_eq_of_lt (by omega)]; omega
  unfold Utf8.encode
  simp only [hval, if_true, Int.toNat_natCast]
  rw [if_neg (by omega)]
  by_cases h1 : r < 2048
  · rw [if_pos h1]; exact .inl ⟨_, _, rfl, key _⟩
  · rw [if_neg h1]
    by_cases h2 : r < 65536
    · rw [if_pos h2]; exact .inr (.inl ⟨_, _, _, rfl, key _⟩)
    · rw [if_neg h2]; exact .inr (.inr ⟨_, _, _, _, rfl, key _⟩)
theorem sgn_none (c : UInt8) (k : Nat) (h : 128 ≤ c.toNat) : Lib.indexByte (sgn.extract k 3).data.toList c = -1 := by
  have key : ∀ l : List UInt8, (∀ x ∈ l, x.toNat < 128) → Lib.indexByte l c = -1 := by
    intro l
    induction l with
    | nil => intro _; rfl
    | cons b l ih =>
      intro hl
      have h1 : (b == c) = false := by
        rw [beq_eq_false_iff_ne]; rintro rfl
        have := hl b (by simp); omega
      simp [Lib.indexByte, h1, ih (fun x hx => hl x (by simp [hx]))]
  refine key _ fun x hx => ?_
  have hx' : x ∈ sgn.data.toList := by
    have e := Lib.extract_data sgn k 3
    rw [e] at hx
    exact List.mem_of_mem_drop (List.mem_of_mem_take hx)
  simp [sgn] at hx'
  rcases hx' with rfl | rfl | rfl <;> decide
set_option maxRecDepth 100000 in
set_option maxHeartbeats 1000000 in
theorem indexRune_m1 (r : Nat) (S R : ByteArray) (w : World) (hS : S.size = 3) (hR : R.size = 2) (he : Utf8.encode (r : Int) = R) (hne : ((S[1].toNat : Int) != (R[1].toNat : Int)) = true) (hnone : Lib.indexByte (S.extract 2 3).data.toList R[1] = -1) (h : 128 ≤ r) (hr : ¬ r = 65533)
    (HV : Hid (Calls Tryz.prog 148 #[.int .i32 (r : Int)] w fun e w' => e = .returned (.bool true) ∧ w = w')) : Calls Tryz.prog 130 #[.string S, .int .i32 (r : Int)] w fun e w' => e = .returned (.int .i64 (-1)) ∧ Below w.heap.size w w' := by
  have h0 : (0 : Int) ≤ (r : Int) := by omega
  have h1 : ¬ (r : Int) < 128 := by omega
  have h2 : ((r : Int) == 65533) = false := by simp; omega
  have HN := Lib.hid hnone
  have HC := Lib.hid (show ((R[1].toNat : Int).toNat).toUInt8 = R[1] by simp)
  clear hr h hnone
  go_enter Tryz.func130, Tryz.ntmps130
  go_wp2_with fail
  refine HV.out.mono ?_
  rintro e w' ⟨rfl, rfl⟩
  go_wp2_with fail
  go_step3
  go_wp2_with fail
  refine wp_loop_rounds 1 ?_
  rw [rounds_succ]
  go_wp2_with fail
  go_step3
  go_wp2_with fail
  clear h0 h1 h2 he HV
  go_quiet (fail)
  go_wp2_with fail
  go_quiet ((go_at_call 110; first | exact quiet_al (indexByte_calls _ _ _) | exact quiet_l (indexByte_calls _ _ _)))
  rw [HC.out, HN.out]
  go_wp2_with fail
  rw [Exit.noGoto_ret]
  go_wp2_with fail
  rw [Exit.noGoto_ret]
  go_ret
  exact ⟨rfl, below_drewN _ _⟩
set_option maxRecDepth 100000 in
set_option maxHeartbeats 1000000 in
theorem indexRune_m2 (r : Nat) (S R : ByteArray) (w : World) (hS : S.size = 3) (hR : R.size = 3) (he : Utf8.encode (r : Int) = R) (hne : ((S[2].toNat : Int) != (R[2].toNat : Int)) = true) (hnone : Lib.indexByte ByteArray.empty.data.toList R[2] = -1) (h : 128 ≤ r) (hr : ¬ r = 65533)
    (HV : Hid (Calls Tryz.prog 148 #[.int .i32 (r : Int)] w fun e w' => e = .returned (.bool true) ∧ w = w')) : Calls Tryz.prog 130 #[.string S, .int .i32 (r : Int)] w fun e w' => e = .returned (.int .i64 (-1)) ∧ Below w.heap.size w w' := by
  have h0 : (0 : Int) ≤ (r : Int) := by omega
  have h1 : ¬ (r : Int) < 128 := by omega
  have h2 : ((r : Int) == 65533) = false := by simp; omega
  have HN := Lib.hid hnone
  have HC := Lib.hid (show ((R[2].toNat : Int).toNat).toUInt8 = R[2] by simp)
  clear hr h hnone
  go_enter Tryz.func130, Tryz.ntmps130
  go_wp2_with fail
  refine HV.out.mono ?_
  rintro e w' ⟨rfl, rfl⟩
  go_wp2_with fail
  go_step3
  go_wp2_with fail
  refine wp_loop_rounds 1 ?_
  rw [rounds_succ]
  go_wp2_with fail
  go_step3
  go_wp2_with fail
  clear h0 h1 h2 he HV
  go_quiet (fail)
  go_wp2_with fail
  go_quiet ((go_at_call 110; first | exact quiet_al (indexByte_calls _ _ _) | exact quiet_l (indexByte_calls _ _ _)))
  rw [HC.out, HN.out]
  go_wp2_with fail
  rw [Exit.noGoto_ret]
  go_wp2_with fail
  rw [Exit.noGoto_ret]
  go_ret
  exact ⟨rfl, below_drewN _ _⟩
set_option maxRecDepth 100000 in
set_option maxHeartbeats 1000000 in
theorem indexRune_m3 (r : Nat) (S R : ByteArray) (w : World) (hS : S.size = 3) (hR : R.size = 4) (he : Utf8.encode (r : Int) = R) (h : 128 ≤ r) (hr : ¬ r = 65533)
    (HV : Hid (Calls Tryz.prog 148 #[.int .i32 (r : Int)] w fun e w' => e = .returned (.bool true) ∧ w = w')) : Calls Tryz.prog 130 #[.string S, .int .i32 (r : Int)] w fun e w' => e = .returned (.int .i64 (-1)) ∧ Below w.heap.size w w' := by
  have h0 : (0 : Int) ≤ (r : Int) := by omega
  have h1 : ¬ (r : Int) < 128 := by omega
  have h2 : ((r : Int) == 65533) = false := by simp; omega
  clear hr h
  go_enter Tryz.func130, Tryz.ntmps130
  go_wp2_with fail
  refine HV.out.mono ?_
  rintro e w' ⟨rfl, rfl⟩
  go_wp2_with fail
  go_step3
  go_wp2_with fail
  refine wp_loop_rounds 1 ?_
  rw [rounds_succ]
  go_wp2_with fail
  rw [Exit.noGoto_ret]
  go_ret
  exact ⟨rfl, Below.refl _ _⟩
theorem neq_sgn (k : Nat) (hk : k < sgn.size) (y : UInt8) (hy : 128 ≤ y.toNat) : (((sgn[k]).toNat : Int) != (y.toNat : Int)) = true := by
  have hk3 : k < 3 := hk
  rw [bne_iff_ne]
  have : sgn[k].toNat < 128 := by
    match k, hk, hk3 with
    | 0, _, _ => exact (show (45 : UInt8).toNat < 128 by decide)
    | 1, _, _ => exact (show (95 : UInt8).toNat < 128 by decide)
    | 2, _, _ => exact (show (46 : UInt8).toNat < 128 by decide)
  omega
theorem indexRune_high (r : Nat) (w : World) (h : 128 ≤ r) : Calls Tryz.prog 130 #[.string sgn, .int .i32 (r : Int)] w fun e w' => e = .returned (.int .i64 (-1)) ∧ Below w.heap.size w w' := by
  by_cases hr : r = 65533
  · subst hr; exact indexRune_err w
  · by_cases hv : r < 55296 ∨ (57343 < r ∧ r ≤ 1114111)
    · have HV := Lib.hid (show Calls Tryz.prog 148 #[.int .i32 (r : Int)] w fun e w' => e = .returned (.bool true) ∧ w = w' from by
        rcases hv with h | ⟨h, h'⟩
        · exact validRune_low r w h
        · exact validRune_high r w h h')
      rcases rune_bytes r h hv with ⟨x, y, he, hy⟩ | ⟨x, y, z, he, hy⟩ | ⟨x, y, z, u, he, hy⟩
      · exact indexRune_m1 r sgn ⟨#[x, y]⟩ w rfl rfl he (neq_sgn 1 (by decide) y hy) (sgn_none y 2 hy) h hr HV
      · exact indexRune_m2 r sgn ⟨#[x, y, z]⟩ w rfl rfl he (neq_sgn 2 (by decide) z hy) rfl h hr HV
      · exact indexRune_m3 r sgn ⟨#[x, y, z, u]⟩ w rfl rfl he h hr HV
    · exact indexRune_inval r w h (by omega) (by omega)
def okC (c : UInt8) : Bool := (97 ≤ c.toNat && c.toNat ≤ 122) || (48 ≤ c.toNat && c.toNat ≤ 57) || isSgn c
theorem okC_letter {c : UInt8} (h1 : 97 ≤ c.toNat) (h2 : c.toNat ≤ 122) : okC c = true := by simp [okC, h1, h2]
theorem okC_digit {c : UInt8} (h1 : 48 ≤ c.toNat) (h2 : c.toNat ≤ 57) : okC c = true := by simp [okC, h1, h2]
theorem okC_other {c : UInt8} (h1 : ¬ (97 ≤ c.toNat ∧ c.toNat ≤ 122)) (h2 : ¬ (48 ≤ c.toNat ∧ c.toNat ≤ 57)) : okC c = isSgn c := by
  have e1 : (decide (97 ≤ c.toNat) && decide (c.toNat ≤ 122)) = false := by
    rw [Bool.and_eq_false_iff, decide_eq_false_iff_not, decide_eq_false_iff_not]; omega
  have e2 : (decide (48 ≤ c.toNat) && decide (c.toNat ≤ 57)) = false := by
    rw [Bool.and_eq_false_iff, decide_eq_false_iff_not, decide_eq_false_iff_not]; omega
  unfold okC
  rw [e1, e2]
  simp
theorem okC_high {c : UInt8} (h : 128 ≤ c.toNat) : okC c = false := by
  rw [okC_other (by omega) (by omega)]
  have key : ∀ d : UInt8, d.toNat < 128 → (c == d) = false := fun d hd => by
    rw [beq_eq_false_iff_ne]; rintro rfl; omega
  simp [isSgn, key 45 (by decide), key 95 (by decide), key 46 (by decide)]
theorem containsRune_ascii (c : UInt8) (w : World) (h : c.toNat < 128) : Calls Tryz.prog 109 #[.string sgn, .int .i32 (c.toNat : Int)] w fun e w' => e = .returned (.bool (isSgn c)) ∧ w = w' := by
  have HS := Lib.hid (sgn_index c)
  go_enter Tryz.func109, Tryz.ntmps109
  go_wp2_with fail
  refine (indexRune_ascii sgn c _ h).mono ?_
  rintro e w' ⟨rfl, rfl⟩
  go_wp2_with fail
  go_ret
  exact ⟨by rw [← HS.out]; rfl, rfl⟩
theorem containsRune_high (r : Nat) (w : World) (h : 128 ≤ r) : Calls Tryz.prog 109 #[.string sgn, .int .i32 (r : Int)] w fun e w' => e = .returned (.bool false) ∧ Below w.heap.size w w' := by
  go_enter Tryz.func109, Tryz.ntmps109
  go_wp2_with fail
  refine (indexRune_high r _ h).mono ?_
  rintro e w' ⟨rfl, hb⟩
  go_wp2_with fail
  go_ret
  exact ⟨rfl, hb⟩
theorem nameByte_ascii (c : UInt8) (w : World) (h : c.toNat < 128) : Calls Tryz.prog 108 #[.int .i32 (c.toNat : Int)] w fun e w' => e = .returned (.bool (!okC c)) ∧ w = w' := by
  by_cases h1 : 97 ≤ c.toNat ∧ c.toNat ≤ 122
  · have HK := Lib.hid (okC_letter h1.1 h1.2)
    obtain ⟨a1, a2⟩ := h1
    have a1' : ¬ (c.toNat : Int) < 97 := by omega
    have a2' : ¬ (122 : Int) < (c.toNat : Int) := by omega
    go_enter Tryz.func108, Tryz.ntmps108
    go_wp2_with fail
    go_ret
    exact ⟨by rw [HK.out]; rfl, rfl⟩
  · by_cases h2 : 48 ≤ c.toNat ∧ c.toNat ≤ 57
    · have HK := Lib.hid (okC_digit h2.1 h2.2)
      obtain ⟨a1, a2⟩ := h2
      have a3 : (c.toNat : Int) < 97 := by omega
      have a1' : ¬ (c.toNat : Int) < 48 := by omega
      have a2' : ¬ (57 : Int) < (c.toNat : Int) := by omega
      clear h1
      go_enter Tryz.func108, Tryz.ntmps108
      go_wp2_with fail
      go_ret
      exact ⟨by rw [HK.out]; rfl, rfl⟩
    · have HK := Lib.hid (okC_other h1 h2)
      have HC := Lib.hid (containsRune_ascii c w h)
      by_cases b1 : (c.toNat : Int) < 97
      · by_cases b2 : (c.toNat : Int) < 48
        · clear h1 h2
          go_enter Tryz.func108, Tryz.ntmps108
          go_wp2_with fail
          refine HC.out.mono ?_
          rintro e w' ⟨rfl, rfl⟩
          go_wp2_with fail
          go_ret
          exact ⟨by rw [HK.out]; rfl, rfl⟩
        · have b3 : (57 : Int) < (c.toNat : Int) := by omega
          clear h1 h2
          go_enter Tryz.func108, Tryz.ntmps108
          go_wp2_with fail
          refine HC.out.mono ?_
          rintro e w' ⟨rfl, rfl⟩
          go_wp2_with fail
          go_ret
          exact ⟨by rw [HK.out]; rfl, rfl⟩
      · have b2 : (122 : Int) < (c.toNat : Int) := by omega
        have b3 : ¬ (c.toNat : Int) < 48 := by omega
        have b4 : (57 : Int) < (c.toNat : Int) := by omega
        clear h1 h2
        go_enter Tryz.func108, Tryz.ntmps108
        go_wp2_with fail
        refine HC.out.mono ?_
        rintro e w' ⟨rfl, rfl⟩
        go_wp2_with fail
        go_ret
        exact ⟨by rw [HK.out]; rfl, rfl⟩
theorem nameByte_high (r : Nat) (w : World) (h : 128 ≤ r) : Calls Tryz.prog 108 #[.int .i32 (r : Int)] w fun e w' => e = .returned (.bool true) ∧ Below w.heap.size w w' := by
  have b1 : ¬ (r : Int) < 97 := by omega
  have b2 : (122 : Int) < (r : Int) := by omega
  have b3 : ¬ (r : Int) < 48 := by omega
  have b4 : (57 : Int) < (r : Int) := by omega
  go_enter Tryz.func108, Tryz.ntmps108
  go_wp2_with fail
  refine (containsRune_high r _ h).mono ?_
  rintro e w' ⟨rfl, hb⟩
  go_wp2_with fail
  go_ret
  exact ⟨rfl, hb⟩
end Go.Proofs.YtgdiadednlajgaaGreatDoor
