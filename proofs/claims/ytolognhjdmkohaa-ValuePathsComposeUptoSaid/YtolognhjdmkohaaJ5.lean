/-
  The contracts of the library's searches in strings, at the strings to which a name is held.
-/
/-
  The contracts of value.Name and of the reference's Name.
-/
/-
  Values as trees: forests of nodes; the rules of a node; the walk in preorder that finds the first fault.
-/
/-
  Strings in memory.
-/
/-
  Values in memory.
-/
/-
  The contracts of slices.Contains at ints and strings, of slices.ContainsFunc at the test of names, of the closures of value.checkNode.
-/
/-
  The contract of value.checkNode.
-/
import Derived.Test.YtolognhjdmkohaaChecked
import Derived.Test.YtolognhjdmkohaaJ1
import Derived.Lib.Bytealg
import Derived.Laws.RangeAny
import Derived.LoopN
import Derived.Lib.Strings
import Derived.WalkMore
import Derived.RegionTactic
import Derived.Deep.QuietTactic
import Derived.BigQuiet
import Derived.Deep.DeepCutAuto
import Derived.Deep.RegionHeld3
import Derived.Test.YtolognhjdmkohaaJ4
namespace Go.Proofs.Ytolognhjdmkohaa
open Go.RowKit
set_option linter.unusedVariables false
set_option linter.unusedSimpArgs false

theorem quiet_l {P : Program} {f : FuncId} {args : Array Value} {w : World} {n : Nat} {v : Value} (h : Calls P f args (w.drewN n) fun e w' => e = .returned v ∧ w.drewN n = w') : Calls P f args (w.drewN n) fun e w'' => e = .returned v ∧ ∃ m, w'' = w.drewN m :=
  h.mono fun _ _ ⟨he, hm⟩ => ⟨he, n, hm.symm⟩
theorem quiet_al {P : Program} {f : FuncId} {args : Array Value} {w : World} {a n : Nat} {v : Value} (h : Calls P f args (w.drewN (a + n)) fun e w' => e = .returned v ∧ w.drewN (a + n) = w') : Calls P f args (w.drewN (a + n)) fun e w'' => e = .returned v ∧ ∃ m, w'' = w.drewN (a + m) :=
  h.mono fun _ _ ⟨he, hm⟩ => ⟨he, n, hm.symm⟩
theorem below_drewN (w : World) (n : Nat) : Below w.heap.size w (w.drewN n) := by
  induction n with
  | zero => exact Below.refl _ _
  | succ n ih => exact ih.drew
theorem ibs_run (s : ByteArray) (c : Int) (w : World) : (callFunc 93 #[.string s, .int .u8 c]).run Try.prog w = .ok (.value (.int .i64 (Lib.indexByte s.data.toList c.toNat.toUInt8))) w := by
  rw [run_callFunc_extern Try.func93 (e := Extern.BytealgIndexByte.indexByte) (by kernel_rfl) (by kernel_rfl) (by kernel_rfl) (by kernel_rfl), Lib.run_indexByteString]
  rfl
theorem sliteIndexByte_calls (s : ByteArray) (c : Int) (w : World) : Calls Try.prog 92 #[.string s, .int .u8 c] w fun e w' => e = .returned (.int .i64 (Lib.indexByte s.data.toList c.toNat.toUInt8)) ∧ w = w' := by
  have hr := ibs_run s c
  go_enter Try.func92, Try.ntmps92
  go_wp2
  go_ret
  exact ⟨rfl, rfl⟩
theorem indexByte_calls (s : ByteArray) (c : Int) (w : World) : Calls Try.prog 84 #[.string s, .int .u8 c] w fun e w' => e = .returned (.int .i64 (Lib.indexByte s.data.toList c.toNat.toUInt8)) ∧ w = w' := by
  go_enter Try.func84, Try.ntmps84
  go_wp2_with fail
  refine (sliteIndexByte_calls s c _).mono ?_
  rintro e w' ⟨rfl, rfl⟩
  go_wp2_with fail
  go_ret
  exact ⟨rfl, rfl⟩
/-- the three signs of a name -/
def sgn : ByteArray := ⟨#[45, 95, 46]⟩
def isSgn (c : UInt8) : Bool := c == 45 || c == 95 || c == 46
theorem sgn_index (c : UInt8) : decide (0 ≤ Lib.indexByte sgn.data.toList c) = isSgn c := by
  by_cases h1 : c = 45
  · subst h1; decide
  · by_cases h2 : c = 95
    · subst h2; decide
    · by_cases h3 : c = 46
      · subst h3; decide
      · have e : isSgn c = false := by simp [isSgn, h1, h2, h3]
        rw [e]
        simp [sgn, Lib.indexByte, Ne.symm h1, Ne.symm h2, Ne.symm h3]
set_option maxRecDepth 100000 in
theorem indexRune_ascii (s : ByteArray) (c : UInt8) (w : World) (h : c.toNat < 128) : Calls Try.prog 73 #[.string s, .int .i32 (c.toNat : Int)] w fun e w' => e = .returned (.int .i64 (Lib.indexByte s.data.toList c)) ∧ w = w' := by
  have h0 : (0 : Int) ≤ (c.toNat : Int) := by omega
  have h1 : (c.toNat : Int) < 128 := by omega
  have HC := Lib.hid (show ((c.toNat : Int).toNat).toUInt8 = c by simp)
  go_enter Try.func73, Try.ntmps73
  go_wp2_with fail
  refine (indexByte_calls s (c.toNat : Int) _).mono ?_
  rintro e w' ⟨rfl, rfl⟩
  rw [HC.out]
  go_wp2_with fail
  go_ret
  exact ⟨rfl, rfl⟩
set_option maxRecDepth 100000 in
theorem indexRune_err (w : World) : Calls Try.prog 73 #[.string sgn, .int .i32 65533] w fun e w' => e = .returned (.int .i64 (-1)) ∧ Below w.heap.size w w' := by
  unfold sgn
  have n0 : ∀ ty, (Instr.next (.pointer (some ⟨w.heap.size, 0, none⟩)) true ty).run Try.prog (w.iter ⟨#[45, 95, 46]⟩ 0) = .ok (.tuple #[.bool true, .int .i64 0, .int .i32 45]) (w.iter ⟨#[45, 95, 46]⟩ 1) := fun ty => run_next_ascii w _ 0 ty (by decide) (by decide)
  have n1 : ∀ ty, (Instr.next (.pointer (some ⟨w.heap.size, 0, none⟩)) true ty).run Try.prog (w.iter ⟨#[45, 95, 46]⟩ 1) = .ok (.tuple #[.bool true, .int .i64 1, .int .i32 95]) (w.iter ⟨#[45, 95, 46]⟩ 2) := fun ty => run_next_ascii w _ 1 ty (by decide) (by decide)
  have n2 : ∀ ty, (Instr.next (.pointer (some ⟨w.heap.size, 0, none⟩)) true ty).run Try.prog (w.iter ⟨#[45, 95, 46]⟩ 2) = .ok (.tuple #[.bool true, .int .i64 2, .int .i32 46]) (w.iter ⟨#[45, 95, 46]⟩ 3) := fun ty => run_next_ascii w _ 2 ty (by decide) (by decide)
  have n3 : ∀ ty, (Instr.next (.pointer (some ⟨w.heap.size, 0, none⟩)) true ty).run Try.prog (w.iter ⟨#[45, 95, 46]⟩ 3) = .ok (.tuple #[.bool false]) (w.iter ⟨#[45, 95, 46]⟩ 3) := fun ty => run_next_end w _ 3 ty (by decide)
  go_enter Try.func73, Try.ntmps73
  go_wp2_with fail
  refine wp_loop_rounds 4 ?_
  rw [rounds_succ]
  go_wp2_with fail
  rw [rounds_succ]
  go_wp2_with fail
  rw [rounds_succ]
  go_wp2_with fail
  rw [rounds_succ]
  go_wp2_with fail
  go_ret
  exact ⟨rfl, (Below.refl _ _).alloc (Nat.le_refl _) _⟩
theorem validRune_low (r : Nat) (w : World) (h : r < 55296) : Calls Try.prog 85 #[.int .i32 (r : Int)] w fun e w' => e = .returned (.bool true) ∧ w = w' := by
  have h0 : (0 : Int) ≤ (r : Int) := by omega
  have h1 : (r : Int) < 55296 := by omega
  go_enter Try.func85, Try.ntmps85
  go_wp2
  go_ret
  exact ⟨rfl, rfl⟩
theorem validRune_high (r : Nat) (w : World) (h : 57343 < r) (h' : r ≤ 1114111) : Calls Try.prog 85 #[.int .i32 (r : Int)] w fun e w' => e = .returned (.bool true) ∧ w = w' := by
  have h0 : (0 : Int) ≤ (r : Int) := by omega
  have h1 : ¬ (r : Int) < 55296 := by omega
  have h2 : (57343 : Int) < r := by omega
  have h3 : (r : Int) ≤ 1114111 := by omega
  go_enter Try.func85, Try.ntmps85
  go_wp2
  go_ret
  exact ⟨rfl, rfl⟩
theorem validRune_no (r : Nat) (w : World) (h : ¬ r < 55296) (h' : ¬ (57343 < r ∧ r ≤ 1114111)) : Calls Try.prog 85 #[.int .i32 (r : Int)] w fun e w' => e = .returned (.bool false) ∧ w = w' := by
  have h0 : (0 : Int) ≤ (r : Int) := by omega
  have h1 : ¬ (r : Int) < 55296 := by omega
  by_cases h4 : 57343 < r
  · have h2 : (57343 : Int) < r := by omega
    have h3 : ¬ (r : Int) ≤ 1114111 := by omega
    clear h'
    go_enter Try.func85, Try.ntmps85
    go_wp2
    go_ret
    exact ⟨rfl, rfl⟩
  · have h2 : ¬ (57343 : Int) < r := by omega
    clear h'
    go_enter Try.func85, Try.ntmps85
    go_wp2
    go_ret
    exact ⟨rfl, rfl⟩
set_option maxRecDepth 100000 in
theorem indexRune_inval (r : Nat) (w : World) (h : 128 ≤ r) (h1' : ¬ r < 55296) (h' : ¬ (57343 < r ∧ r ≤ 1114111)) : Calls Try.prog 73 #[.string sgn, .int .i32 (r : Int)] w fun e w' => e = .returned (.int .i64 (-1)) ∧ Below w.heap.size w w' := by
  have h0 : (0 : Int) ≤ (r : Int) := by omega
  have h1 : ¬ (r : Int) < 128 := by omega
  have h2 : ((r : Int) == 65533) = false := by simp; omega
  have HV := Lib.hid (validRune_no r w h1' h')
  clear h'
  unfold sgn
  go_enter Try.func73, Try.ntmps73
  go_wp2_with fail
  refine HV.out.mono ?_
  rintro e w' ⟨rfl, rfl⟩
  go_wp2_with fail
  go_ret
  exact ⟨rfl, Below.refl _ _⟩
/-- the bytes of a rune that is no ASCII -/
theorem rune_bytes (r : Nat) (h : 128 ≤ r) (hv : r < 55296 ∨ (57343 < r ∧ r ≤ 1114111)) : (∃ x y : UInt8, Utf8.encode (r : Int) = ⟨#[x, y]⟩ ∧ 128 ≤ y.toNat) ∨ (∃ x y z : UInt8, Utf8.encode (r : Int) = ⟨#[x, y, z]⟩ ∧ 128 ≤ z.toNat) ∨ (∃ x y z u : UInt8, Utf8.encode (r : Int) = ⟨#[x, y, z, u]⟩ ∧ 128 ≤ u.toNat) := by
  have hval : Utf8.valid (r : Int) = true := by
    unfold Utf8.valid
    simp
    omega
  have key : ∀ n : Nat, 128 ≤ (UInt8.ofNat (128 + n % 64)).toNat := fun n => by rw [UInt8.toNat_ofNat', Nat.mod_eq_of_lt (by omega)]; omega
  unfold Utf8.encode
  simp only [hval, if_true, Int.toNat_natCast]
  rw [if_neg (by omega)]
  by_cases h1 : r < 2048
  · rw [if_pos h1]; exact .inl ⟨_, _, rfl, key _⟩
  · rw [if_neg h1]
    by_cases h2 : r < 65536
    · rw [if_pos h2]; exact .inr (.inl ⟨_, _, _, rfl, key _⟩)
    · rw [if_neg h2]; exact .inr (.inr ⟨_, _, _, _, rfl, key _⟩)
theorem sgn_none (c : UInt8) (k : Nat) (h : 128 ≤ c.toNat) : Lib.indexByte (sgn.extract k 3).data.toList c = -1 := by
  have key : ∀ l : List UInt8, (∀ x ∈ l, x.toNat < 128) → Lib.indexByte l c = -1 := by
    intro l
    induction l with
    | nil => intro _; rfl
    | cons b l ih =>
      intro hl
      have h1 : (b == c) = false := by
        rw [beq_eq_false_iff_ne]; rintro rfl
        have := hl b (by simp); omega
      simp [Lib.indexByte, h1, ih (fun x hx => hl x (by simp [hx]))]
  refine key _ fun x hx => ?_
  have hx' : x ∈ sgn.data.toList := by
    have e := Lib.extract_data sgn k 3
    rw [e] at hx
    exact List.mem_of_mem_drop (List.mem_of_mem_take hx)
  simp [sgn] at hx'
  rcases hx' with rfl | rfl | rfl <;> decide
set_option maxRecDepth 100000 in
set_option maxHeartbeats 1000000 in
theorem indexRune_m1 (r : Nat) (S R : ByteArray) (w : World) (hS : S.size = 3) (hR : R.size = 2) (he : Utf8.encode (r : Int) = R) (hne : ((S[1].toNat : Int) != (R[1].toNat : Int)) = true) (hnone : Lib.indexByte (S.extract 2 3).data.toList R[1] = -1) (h : 128 ≤ r) (hr : ¬ r = 65533)
    (HV : Hid (Calls Try.prog 85 #[.int .i32 (r : Int)] w fun e w' => e = .returned (.bool true) ∧ w = w')) : Calls Try.prog 73 #[.string S, .int .i32 (r : Int)] w fun e w' => e = .returned (.int .i64 (-1)) ∧ Below w.heap.size w w' := by
  have h0 : (0 : Int) ≤ (r : Int) := by omega
  have h1 : ¬ (r : Int) < 128 := by omega
  have h2 : ((r : Int) == 65533) = false := by simp; omega
  have HN := Lib.hid hnone
  have HC := Lib.hid (show ((R[1].toNat : Int).toNat).toUInt8 = R[1] by simp)
  clear hr h hnone
  go_enter Try.func73, Try.ntmps73
  go_wp2_with fail
  refine HV.out.mono ?_
  rintro e w' ⟨rfl, rfl⟩
  go_wp2_with fail
  go_step3
  go_wp2_with fail
  refine wp_loop_rounds 1 ?_
  rw [rounds_succ]
  go_wp2_with fail
  go_step3
  go_wp2_with fail
  clear h0 h1 h2 he HV
  go_quiet (fail)
  go_wp2_with fail
  go_quiet ((go_at_call 84; first | exact quiet_al (indexByte_calls _ _ _) | exact quiet_l (indexByte_calls _ _ _)))
  rw [HC.out, HN.out]
  go_wp2_with fail
  rw [Exit.noGoto_ret]
  go_wp2_with fail
  rw [Exit.noGoto_ret]
  go_ret
  exact ⟨rfl, below_drewN _ _⟩
set_option maxRecDepth 100000 in
set_option maxHeartbeats 1000000 in
theorem indexRune_m2 (r : Nat) (S R : ByteArray) (w : World) (hS : S.size = 3) (hR : R.size = 3) (he : Utf8.encode (r : Int) = R) (hne : ((S[2].toNat : Int) != (R[2].toNat : Int)) = true) (hnone : Lib.indexByte ByteArray.empty.data.toList R[2] = -1) (h : 128 ≤ r) (hr : ¬ r = 65533)
    (HV : Hid (Calls Try.prog 85 #[.int .i32 (r : Int)] w fun e w' => e = .returned (.bool true) ∧ w = w')) : Calls Try.prog 73 #[.string S, .int .i32 (r : Int)] w fun e w' => e = .returned (.int .i64 (-1)) ∧ Below w.heap.size w w' := by
  have h0 : (0 : Int) ≤ (r : Int) := by omega
  have h1 : ¬ (r : Int) < 128 := by omega
  have h2 : ((r : Int) == 65533) = false := by simp; omega
  have HN := Lib.hid hnone
  have HC := Lib.hid (show ((R[2].toNat : Int).toNat).toUInt8 = R[2] by simp)
  clear hr h hnone
  go_enter Try.func73, Try.ntmps73
  go_wp2_with fail
  refine HV.out.mono ?_
  rintro e w' ⟨rfl, rfl⟩
  go_wp2_with fail
  go_step3
  go_wp2_with fail
  refine wp_loop_rounds 1 ?_
  rw [rounds_succ]
  go_wp2_with fail
  go_step3
  go_wp2_with fail
  clear h0 h1 h2 he HV
  go_quiet (fail)
  go_wp2_with fail
  go_quiet ((go_at_call 84; first | exact quiet_al (indexByte_calls _ _ _) | exact quiet_l (indexByte_calls _ _ _)))
  rw [HC.out, HN.out]
  go_wp2_with fail
  rw [Exit.noGoto_ret]
  go_wp2_with fail
  rw [Exit.noGoto_ret]
  go_ret
  exact ⟨rfl, below_drewN _ _⟩
set_option maxRecDepth 100000 in
set_option maxHeartbeats 1000000 in
theorem indexRune_m3 (r : Nat) (S R : ByteArray) (w : World) (hS : S.size = 3) (hR : R.size = 4) (he : Utf8.encode (r : Int) = R) (h : 128 ≤ r) (hr : ¬ r = 65533)
    (HV : Hid (Calls Try.prog 85 #[.int .i32 (r : Int)] w fun e w' => e = .returned (.bool true) ∧ w = w')) : Calls Try.prog 73 #[.string S, .int .i32 (r : Int)] w fun e w' => e = .returned (.int .i64 (-1)) ∧ Below w.heap.size w w' := by
  have h0 : (0 : Int) ≤ (r : Int) := by omega
  have h1 : ¬ (r : Int) < 128 := by omega
  have h2 : ((r : Int) == 65533) = false := by simp; omega
  clear hr h
  go_enter Try.func73, Try.ntmps73
  go_wp2_with fail
  refine HV.out.mono ?_
  rintro e w' ⟨rfl, rfl⟩
  go_wp2_with fail
  go_step3
  go_wp2_with fail
  refine wp_loop_rounds 1 ?_
  rw [rounds_succ]
  go_wp2_with fail
  rw [Exit.noGoto_ret]
  go_ret
  exact ⟨rfl, Below.refl _ _⟩
theorem neq_sgn (k : Nat) (hk : k < sgn.size) (y : UInt8) (hy : 128 ≤ y.toNat) : (((sgn[k]).toNat : Int) != (y.toNat : Int)) = true := by
  have hk3 : k < 3 := hk
  rw [bne_iff_ne]
  have : sgn[k].toNat < 128 := by
    match k, hk, hk3 with
    | 0, _, _ => exact (show (45 : UInt8).toNat < 128 by decide)
    | 1, _, _ => exact (show (95 : UInt8).toNat < 128 by decide)
    | 2, _, _ => exact (show (46 : UInt8).toNat < 128 by decide)
  omega
theorem indexRune_high (r : Nat) (w : World) (h : 128 ≤ r) : Calls Try.prog 73 #[.string sgn, .int .i32 (r : Int)] w fun e w' => e = .returned (.int .i64 (-1)) ∧ Below w.heap.size w w' := by
  by_cases hr : r = 65533
  · subst hr; exact indexRune_err w
  · by_cases hv : r < 55296 ∨ (57343 < r ∧ r ≤ 1114111)
    · have HV := Lib.hid (show Calls Try.prog 85 #[.int .i32 (r : Int)] w fun e w' => e = .returned (.bool true) ∧ w = w' from by
        rcases hv with h | ⟨h, h'⟩
        · exact validRune_low r w h
        · exact validRune_high r w h h')
      rcases rune_bytes r h hv with ⟨x, y, he, hy⟩ | ⟨x, y, z, he, hy⟩ | ⟨x, y, z, u, he, hy⟩
      · exact indexRune_m1 r sgn ⟨#[x, y]⟩ w rfl rfl he (neq_sgn 1 (by decide) y hy) (sgn_none y 2 hy) h hr HV
      · exact indexRune_m2 r sgn ⟨#[x, y, z]⟩ w rfl rfl he (neq_sgn 2 (by decide) z hy) rfl h hr HV
      · exact indexRune_m3 r sgn ⟨#[x, y, z, u]⟩ w rfl rfl he h hr HV
    · exact indexRune_inval r w h (by omega) (by omega)

/-- a byte of a name -/
def okC (c : UInt8) : Bool := (97 ≤ c.toNat && c.toNat ≤ 122) || (48 ≤ c.toNat && c.toNat ≤ 57) || isSgn c
theorem okC_letter {c : UInt8} (h1 : 97 ≤ c.toNat) (h2 : c.toNat ≤ 122) : okC c = true := by simp [okC, h1, h2]
theorem okC_digit {c : UInt8} (h1 : 48 ≤ c.toNat) (h2 : c.toNat ≤ 57) : okC c = true := by simp [okC, h1, h2]
theorem okC_other {c : UInt8} (h1 : ¬ (97 ≤ c.toNat ∧ c.toNat ≤ 122)) (h2 : ¬ (48 ≤ c.toNat ∧ c.toNat ≤ 57)) : okC c = isSgn c := by
  have e1 : (decide (97 ≤ c.toNat) && decide (c.toNat ≤ 122)) = false := by
    rw [Bool.and_eq_false_iff, decide_eq_false_iff_not, decide_eq_false_iff_not]; omega
  have e2 : (decide (48 ≤ c.toNat) && decide (c.toNat ≤ 57)) = false := by
    rw [Bool.and_eq_false_iff, decide_eq_false_iff_not, decide_eq_false_iff_not]; omega
  unfold okC
  rw [e1, e2]
  simp
theorem okC_high {c : UInt8} (h : 128 ≤ c.toNat) : okC c = false := by
  rw [okC_other (by omega) (by omega)]
  have key : ∀ d : UInt8, d.toNat < 128 → (c == d) = false := fun d hd => by
    rw [beq_eq_false_iff_ne]; rintro rfl; omega
  simp [isSgn, key 45 (by decide), key 95 (by decide), key 46 (by decide)]

theorem containsRune_ascii (c : UInt8) (w : World) (h : c.toNat < 128) : Calls Try.prog 58 #[.string sgn, .int .i32 (c.toNat : Int)] w fun e w' => e = .returned (.bool (isSgn c)) ∧ w = w' := by
  have HS := Lib.hid (sgn_index c)
  go_enter Try.func58, Try.ntmps58
  go_wp2_with fail
  refine (indexRune_ascii sgn c _ h).mono ?_
  rintro e w' ⟨rfl, rfl⟩
  go_wp2_with fail
  go_ret
  exact ⟨by rw [← HS.out]; rfl, rfl⟩
theorem containsRune_high (r : Nat) (w : World) (h : 128 ≤ r) : Calls Try.prog 58 #[.string sgn, .int .i32 (r : Int)] w fun e w' => e = .returned (.bool false) ∧ Below w.heap.size w w' := by
  go_enter Try.func58, Try.ntmps58
  go_wp2_with fail
  refine (indexRune_high r _ h).mono ?_
  rintro e w' ⟨rfl, hb⟩
  go_wp2_with fail
  go_ret
  exact ⟨rfl, hb⟩
theorem nameByte_ascii (c : UInt8) (w : World) (h : c.toNat < 128) : Calls Try.prog 57 #[.int .i32 (c.toNat : Int)] w fun e w' => e = .returned (.bool (!okC c)) ∧ w = w' := by
  by_cases h1 : 97 ≤ c.toNat ∧ c.toNat ≤ 122
  · have HK := Lib.hid (okC_letter h1.1 h1.2)
    obtain ⟨a1, a2⟩ := h1
    have a1' : ¬ (c.toNat : Int) < 97 := by omega
    have a2' : ¬ (122 : Int) < (c.toNat : Int) := by omega
    go_enter Try.func57, Try.ntmps57
    go_wp2_with fail
    go_ret
    exact ⟨by rw [HK.out]; rfl, rfl⟩
  · by_cases h2 : 48 ≤ c.toNat ∧ c.toNat ≤ 57
    · have HK := Lib.hid (okC_digit h2.1 h2.2)
      obtain ⟨a1, a2⟩ := h2
      have a3 : (c.toNat : Int) < 97 := by omega
      have a1' : ¬ (c.toNat : Int) < 48 := by omega
      have a2' : ¬ (57 : Int) < (c.toNat : Int) := by omega
      clear h1
      go_enter Try.func57, Try.ntmps57
      go_wp2_with fail
      go_ret
      exact ⟨by rw [HK.out]; rfl, rfl⟩
    · have HK := Lib.hid (okC_other h1 h2)
      have HC := Lib.hid (containsRune_ascii c w h)
      by_cases b1 : (c.toNat : Int) < 97
      · by_cases b2 : (c.toNat : Int) < 48
        · clear h1 h2
          go_enter Try.func57, Try.ntmps57
          go_wp2_with fail
          refine HC.out.mono ?_
          rintro e w' ⟨rfl, rfl⟩
          go_wp2_with fail
          go_ret
          exact ⟨by rw [HK.out]; rfl, rfl⟩
        · have b3 : (57 : Int) < (c.toNat : Int) := by omega
          clear h1 h2
          go_enter Try.func57, Try.ntmps57
          go_wp2_with fail
          refine HC.out.mono ?_
          rintro e w' ⟨rfl, rfl⟩
          go_wp2_with fail
          go_ret
          exact ⟨by rw [HK.out]; rfl, rfl⟩
      · have b2 : (122 : Int) < (c.toNat : Int) := by omega
        have b3 : ¬ (c.toNat : Int) < 48 := by omega
        have b4 : (57 : Int) < (c.toNat : Int) := by omega
        clear h1 h2
        go_enter Try.func57, Try.ntmps57
        go_wp2_with fail
        refine HC.out.mono ?_
        rintro e w' ⟨rfl, rfl⟩
        go_wp2_with fail
        go_ret
        exact ⟨by rw [HK.out]; rfl, rfl⟩
theorem nameByte_high (r : Nat) (w : World) (h : 128 ≤ r) : Calls Try.prog 57 #[.int .i32 (r : Int)] w fun e w' => e = .returned (.bool true) ∧ Below w.heap.size w w' := by
  have b1 : ¬ (r : Int) < 97 := by omega
  have b2 : (122 : Int) < (r : Int) := by omega
  have b3 : ¬ (r : Int) < 48 := by omega
  have b4 : (57 : Int) < (r : Int) := by omega
  go_enter Try.func57, Try.ntmps57
  go_wp2_with fail
  refine (containsRune_high r _ h).mono ?_
  rintro e w' ⟨rfl, hb⟩
  go_wp2_with fail
  go_ret
  exact ⟨rfl, hb⟩
end Go.Proofs.Ytolognhjdmkohaa
namespace Go.Proofs.Ytolognhjdmkohaa
open Go.RowKit
set_option linter.unusedVariables false
set_option linter.unusedSimpArgs false

theorem byte_at {s : ByteArray} {k : Nat} (h : k < s.size) : s.data.toList[k]? = some s[k] := by
  rw [List.getElem?_eq_getElem (by simpa using h)]; rfl
def IFEnd (l : List UInt8) (w : World) (e : Ending) (w' : World) : Prop := ∃ n : Int, e = .returned (.int .i64 n) ∧ decide (0 ≤ n) = (!(l.all okC)) ∧ Below w.heap.size w w'
def IFRel (s : ByteArray) (w : World) (i : Value) (wr : World) : Prop := ∃ pos : Nat, pos ≤ s.size ∧ (s.data.toList.take pos).all okC = true ∧ w.iter s pos = wr
theorem all_bad {l : List UInt8} {k : Nat} {c : UInt8} (h : l[k]? = some c) (hc : okC c = false) : l.all okC = false := by
  rw [List.all_eq_false]
  exact ⟨c, List.mem_of_getElem? h, by simp [hc]⟩
theorem all_more {l : List UInt8} {k : Nat} {c : UInt8} (h : l[k]? = some c) (hc : okC c = true) (hl : (l.take k).all okC = true) : (l.take (k + 1)).all okC = true := by
  rw [List.take_add_one, h, Option.toList_some, List.all_append, hl]
  simp [hc]
theorem if_bad {s : ByteArray} {w w' : World} {k : Nat} {c : UInt8} (h : s.data.toList[k]? = some c) (hc : okC c = false) (hb : Below w.heap.size w w') : IFEnd s.data.toList w (.returned (.int .i64 (k : Int))) w' :=
  ⟨_, rfl, by rw [all_bad h hc]; simp, hb⟩

set_option maxRecDepth 100000 in
theorem indexFunc_calls (s : ByteArray) (w : World) (hs : s.size ≤ 9223372036854775807) : Calls Try.prog 83 #[.string s, .func (.func 57) #[] #[], .bool true] w (IFEnd s.data.toList w) := by
  go_enter Try.func83, Try.ntmps83
  go_wp2_with fail
  go_loopw [7] (IFRel s w) (fun _ wr => s.size - wr.iterPos w.heap.size)
  case atStart => exact ⟨0, Nat.zero_le _, rfl, rfl⟩
  case round =>
    obtain ⟨pos, hpos, hall, rfl⟩ := hrel
    have HALL := Lib.hid hall
    clear hall
    by_cases hp : pos < s.size
    · have HX := Lib.hid (byte_at (s := s) (k := pos) hp)
      by_cases ha : s[pos].toNat < 128
      · have hnx : ∀ ty, (Instr.next (.pointer (some ⟨w.heap.size, 0, none⟩)) true ty).run Try.prog (w.iter s pos) = _ := fun ty => run_next_ascii w s pos ty hp ha
        by_cases hc : okC s[pos] = true
        · go_wp2_with fail
          refine (nameByte_ascii s[pos] _ ha).mono ?_
          rintro e w' ⟨rfl, rfl⟩
          have HC := Lib.hid hc
          rw [HC.out]
          clear hc hnx
          go_wp2_with fail
          go_roundw
          case rel => exact ⟨pos + 1, by omega, all_more HX.out HC.out HALL.out, rfl⟩
          case measure => simp; omega
        · have hc' : okC s[pos] = false := by simpa using hc
          have HC := Lib.hid hc'
          clear hc hc'
          go_wp2_with fail
          refine (nameByte_ascii s[pos] _ ha).mono ?_
          rintro e w' ⟨rfl, rfl⟩
          rw [HC.out]
          clear hnx
          go_wp2_with fail
          go_ret
          exact if_bad HX.out HC.out ((Below.refl _ _).alloc (Nat.le_refl _) _)
      · have hh := decode_high s pos hp (by omega)
        have HC := Lib.hid (okC_high (c := s[pos]) (by omega))
        have hnx : ∀ ty, (Instr.next (.pointer (some ⟨w.heap.size, 0, none⟩)) true ty).run Try.prog (w.iter s pos) = _ := fun ty => run_next_any w s pos ty hp
        generalize (Utf8.decode s pos).1 = r at *
        generalize (Utf8.decode s pos).2 = d at *
        go_wp2_with fail
        refine (nameByte_high r _ hh.1).mono ?_
        rintro e w' ⟨rfl, hb⟩
        clear hnx
        go_wp2_with fail
        go_ret
        exact if_bad HX.out HC.out (((Below.refl _ _).alloc (Nat.le_refl _) _).trans (hb.mono (by simp [World.iter])))
    · have hnx : ∀ ty, (Instr.next (.pointer (some ⟨w.heap.size, 0, none⟩)) true ty).run Try.prog (w.iter s pos) = _ := fun ty => run_next_end w s pos ty hp
      have HA : Hid (s.data.toList.all okC = true) := Lib.hid (by
        have := HALL.out
        rwa [List.take_of_length_le (by simp; omega)] at this)
      go_wp2_with fail
      go_ret
      exact ⟨-1, rfl, by rw [HA.out]; rfl, (Below.refl _ _).alloc (Nat.le_refl _) _⟩
theorem indexFunc2_calls (s : ByteArray) (w : World) (hs : s.size ≤ 9223372036854775807) : Calls Try.prog 72 #[.string s, .func (.func 57) #[] #[]] w (IFEnd s.data.toList w) := by
  go_enter Try.func72, Try.ntmps72
  go_wp2_with fail
  refine (indexFunc_calls s _ hs).mono ?_
  rintro e w' ⟨n, rfl, hn, hb⟩
  have HN := Lib.hid hn
  clear hn
  go_wp2_with fail
  go_ret
  exact ⟨n, rfl, HN.out, hb⟩
theorem containsFunc_calls (s : ByteArray) (w : World) (hs : s.size ≤ 9223372036854775807) : Calls Try.prog 56 #[.string s, .func (.func 57) #[] #[]] w fun e w' => e = .returned (.bool (!(s.data.toList.all okC))) ∧ Below w.heap.size w w' := by
  go_enter Try.func56, Try.ntmps56
  go_wp2_with fail
  refine (indexFunc2_calls s _ hs).mono ?_
  rintro e w' ⟨n, rfl, hn, hb⟩
  have HN := Lib.hid hn
  clear hn
  go_wp2_with fail
  go_ret
  exact ⟨by rw [← HN.out]; rfl, hb⟩

/-- a name -/
def isName (l : List UInt8) : Bool := decide (l.length ≤ 32) && (match l with | [] => false | c :: _ => decide (97 ≤ c.toNat ∧ c.toNat ≤ 122)) && l.all okC
theorem isName_nil : isName [] = false := rfl
theorem isName_long {l : List UInt8} (h : 32 < l.length) : isName l = false := by
  have : decide (l.length ≤ 32) = false := decide_eq_false (by omega)
  simp [isName, this]
theorem isName_head {l : List UInt8} {c : UInt8} (h : l[0]? = some c) (hc : ¬ (97 ≤ c.toNat ∧ c.toNat ≤ 122)) : isName l = false := by
  match l, h with
  | x :: r, h =>
    simp at h; subst h
    have : decide (97 ≤ x.toNat ∧ x.toNat ≤ 122) = false := decide_eq_false hc
    unfold isName
    simp only [this, Bool.and_false, Bool.false_and]
theorem isName_all {l : List UInt8} {c : UInt8} (hl : l.length ≤ 32) (h : l[0]? = some c) (hc : 97 ≤ c.toNat ∧ c.toNat ≤ 122) : isName l = l.all okC := by
  match l, h with
  | x :: r, h =>
    simp at h; subst h
    have h1 : decide (97 ≤ x.toNat ∧ x.toNat ≤ 122) = true := decide_eq_true hc
    have h2 : decide ((x :: r).length ≤ 32) = true := decide_eq_true hl
    unfold isName
    simp only [h1, h2, Bool.true_and]

theorem name_calls (s : ByteArray) (w : World) (hs : s.size ≤ 9223372036854775807) : Calls Try.prog 28 #[.string s] w fun e w' => e = .returned (.bool (isName s.data.toList)) ∧ Below w.heap.size w w' := by
  by_cases h0 : s.size = 0
  · have e0 : s.toList = [] := by rw [Lib.toList_data]; exact List.eq_nil_of_length_eq_zero (by simpa using h0)
    have HK := Lib.hid (show isName s.data.toList = false by rw [List.eq_nil_of_length_eq_zero (l := s.data.toList) (by simpa using h0)]; rfl)
    have e1 : s.toList.isEmpty = true := by rw [e0]; rfl
    go_enter Try.func28, Try.ntmps28
    go_wp2_with fail
    go_ret
    exact ⟨by rw [HK.out]; rfl, Below.refl _ _⟩
  · have e1 : s.toList.isEmpty = false := by
      rw [Lib.toList_data]
      cases h : s.data.toList with
      | nil => exact absurd (by simpa using congrArg List.length h) h0
      | cons => rfl
    have e2 : ¬ s.toList = [] := by intro e; rw [e] at e1; cases e1
    by_cases h32 : 32 < s.size
    · have HK := Lib.hid (isName_long (l := s.data.toList) (by simpa using h32))
      have h32' : (32 : Int) < (s.size : Int) := by omega
      go_enter Try.func28, Try.ntmps28
      go_wp2_with fail
      go_ret
      exact ⟨by rw [HK.out]; rfl, Below.refl _ _⟩
    · have h32' : ¬ (32 : Int) < (s.size : Int) := by omega
      have hpos : 0 < s.size := by omega
      have HX := byte_at (s := s) (k := 0) hpos
      by_cases hc : 97 ≤ s[0].toNat ∧ s[0].toNat ≤ 122
      · have HK := Lib.hid (isName_all (l := s.data.toList) (by simpa using (show s.size ≤ 32 by omega)) HX hc)
        obtain ⟨c1, c2⟩ := hc
        have c1' : ¬ (s[0].toNat : Int) < 97 := by omega
        have c2' : ¬ (122 : Int) < (s[0].toNat : Int) := by omega
        clear HX
        go_enter Try.func28, Try.ntmps28
        go_wp2_with fail
        refine (containsFunc_calls s _ hs).mono ?_
        rintro e w' ⟨rfl, hb⟩
        go_wp2_with fail
        go_ret
        exact ⟨by rw [HK.out]; simp, hb⟩
      · have HK := Lib.hid (isName_head (l := s.data.toList) HX hc)
        clear HX
        by_cases c1 : (s[0].toNat : Int) < 97
        · clear hc
          go_enter Try.func28, Try.ntmps28
          go_wp2_with fail
          go_ret
          exact ⟨by rw [HK.out]; rfl, Below.refl _ _⟩
        · have c2 : (122 : Int) < (s[0].toNat : Int) := by omega
          clear hc
          go_enter Try.func28, Try.ntmps28
          go_wp2_with fail
          go_ret
          exact ⟨by rw [HK.out]; rfl, Below.refl _ _⟩
end Go.Proofs.Ytolognhjdmkohaa
namespace Go.Proofs.Ytolognhjdmkohaa
set_option linter.unusedVariables false
set_option linter.unusedSimpArgs false

/-- a node by itself: its kind, number, bytes and names -/
structure Nd where
  k : Int
  n : Int
  bs : List UInt8
  ns : List (List UInt8)

/-- a forest: the first tree's node, its parts, the other trees -/
inductive VF where
  | nil : VF
  | cons : Nd → VF → VF → VF

def VF.len : VF → Nat
  | .nil => 0
  | .cons _ _ r => r.len + 1
def VF.drop : VF → Nat → VF
  | F, 0 => F
  | .nil, _ + 1 => .nil
  | .cons _ _ r, i + 1 => r.drop i
def VF.take : VF → Nat → VF
  | _, 0 => .nil
  | .nil, _ + 1 => .nil
  | .cons d p r, i + 1 => .cons d p (r.take i)
/-- one more tree behind -/
def VF.snoc : VF → Nd → VF → VF
  | .nil, d, p => .cons d p .nil
  | .cons d' p' r, d, p => .cons d' p' (r.snoc d p)
def VF.All (C : Nd → VF → Prop) : VF → Prop
  | .nil => True
  | .cons d p r => C d p ∧ VF.All C r
theorem VF.all_of {C : Nd → VF → Prop} (h : ∀ d p, VF.All C p → C d p) : ∀ F : VF, VF.All C F := by
  intro F
  induction F with
  | nil => trivial
  | cons d p r ih1 ih2 => exact ⟨h d p ih1, ih2⟩
theorem VF.all_each {C : Nd → VF → Prop} (h : ∀ d p, VF.All C p → C d p) (d : Nd) (p : VF) : C d p := h d p (VF.all_of h p)
theorem VF.drop_zero (F : VF) : F.drop 0 = F := by cases F <;> rfl
theorem VF.drop_cons {F : VF} {i : Nat} (h : i < F.len) : ∃ d p, F.drop i = .cons d p (F.drop (i + 1)) := by
  induction F generalizing i with
  | nil => simp [VF.len] at h
  | cons d p r _ ih =>
    cases i with
    | zero => exact ⟨d, p, by rw [VF.drop_zero]; show _ = VF.cons d p (r.drop 0); rw [VF.drop_zero]⟩
    | succ i => exact ih (by simp [VF.len] at h; omega)
theorem VF.drop_nil {F : VF} {i : Nat} (h : F.len ≤ i) : F.drop i = .nil := by
  induction F generalizing i with
  | nil => cases i <;> rfl
  | cons d p r _ ih =>
    cases i with
    | zero => simp [VF.len] at h
    | succ i => exact ih (by simp [VF.len] at h; omega)
theorem VF.all_drop {C : Nd → VF → Prop} {F : VF} (h : VF.All C F) (i : Nat) : VF.All C (F.drop i) := by
  induction F generalizing i with
  | nil => cases i <;> trivial
  | cons d p r _ ih =>
    cases i with
    | zero => exact h
    | succ i => exact ih h.2 i
theorem VF.len_drop (F : VF) (i : Nat) : (F.drop i).len = F.len - i := by
  induction F generalizing i with
  | nil => cases i <;> simp [VF.drop, VF.len]
  | cons d p r _ ih =>
    cases i with
    | zero => simp [VF.drop, VF.len]
    | succ i => simp [VF.drop, VF.len, ih i]
theorem VF.len_snoc (F : VF) (d : Nd) (p : VF) : (F.snoc d p).len = F.len + 1 := by
  induction F with
  | nil => rfl
  | cons _ _ r _ ih => simp [VF.snoc, VF.len, ih]
theorem VF.take_zero (F : VF) : F.take 0 = .nil := by cases F <;> rfl
theorem VF.take_succ {F : VF} {i : Nat} {d : Nd} {p : VF} {r : VF} (h : F.drop i = .cons d p r) : F.take (i + 1) = (F.take i).snoc d p := by
  induction F generalizing i with
  | nil => cases i <;> simp [VF.drop] at h
  | cons d' p' r' _ ih =>
    cases i with
    | zero =>
      rw [VF.drop_zero] at h
      injection h with h1 h2 h3
      subst h1 h2 h3
      show VF.cons d' p' (r'.take 0) = _
      rw [VF.take_zero]; rfl
    | succ i =>
      show VF.cons d' p' (r'.take (i + 1)) = VF.cons d' p' ((r'.take i).snoc d p)
      rw [ih h]
theorem VF.take_all {F : VF} {i : Nat} (h : F.len ≤ i) : F.take i = F := by
  induction F generalizing i with
  | nil => cases i <;> rfl
  | cons d p r _ ih =>
    cases i with
    | zero => simp [VF.len] at h
    | succ i => show VF.cons d p (r.take i) = _; rw [ih (by simp [VF.len] at h; omega)]
theorem VF.len_take (F : VF) (i : Nat) : (F.take i).len = min i F.len := by
  induction F generalizing i with
  | nil => cases i <;> simp [VF.take, VF.len]
  | cons d p r _ ih =>
    cases i with
    | zero => simp [VF.take, VF.len]
    | succ i => simp [VF.take, VF.len, ih i]

/-- the form of a node: the fields that its kind does not have are empty -/
def formB (d : Nd) (np : Nat) : Bool :=
  decide (d.k ≠ 1 ∧ d.n ≠ 0) || decide (d.k ≠ 2 ∧ 0 < d.bs.length) || decide (d.k ≠ 4 ∧ 0 < d.ns.length) || decide (d.k < 3 ∧ 0 < np) || decide (d.k = 4 ∧ d.ns.length ≠ np)
/-- is a name said twice? -/
def dupB : List (List UInt8) → Bool
  | [] => false
  | s :: r => r.contains s || dupB r
/-- the code of a node by itself -/
def nodeC (d : Nd) (np : Nat) : Int :=
  if d.k < 1 ∨ 4 < d.k then 5 else if formB d np = true then 6 else if 600 < np then 14 else if d.ns.all isName = false then 7 else if ¬ d.ns.Nodup then 8 else 0
theorem nodeC_bd (d : Nd) (np : Nat) : 0 ≤ nodeC d np ∧ nodeC d np ≤ 14 := by
  unfold nodeC
  repeat' split
  all_goals omega
/-- the first fault in preorder (code, index), or the number of the next node -/
def chkF : VF → Nat → Nat → Sum (Int × Int) Nat
  | .nil, num, _ => .inr num
  | .cons d p r, num, lev =>
    if 600 ≤ num ∨ 10 < lev then .inl (2, (num : Int))
    else if nodeC d p.len ≠ 0 then .inl (nodeC d p.len, (num : Int))
    else match chkF p (num + 1) (lev + 1) with
      | .inl f => .inl f
      | .inr m => chkF r m lev
theorem chkF_nil (num lev : Nat) : chkF .nil num lev = .inr num := rfl
theorem chkF_many {d : Nd} {p r : VF} {num lev : Nat} (h : 600 ≤ num ∨ 10 < lev) : chkF (.cons d p r) num lev = .inl (2, (num : Int)) := by rw [chkF, if_pos h]
theorem chkF_node {d : Nd} {p r : VF} {num lev : Nat} (h : ¬ (600 ≤ num ∨ 10 < lev)) (hn : nodeC d p.len ≠ 0) : chkF (.cons d p r) num lev = .inl (nodeC d p.len, (num : Int)) := by rw [chkF, if_neg h, if_pos hn]
theorem chkF_inl {d : Nd} {p r : VF} {num lev : Nat} {f : Int × Int} (h : ¬ (600 ≤ num ∨ 10 < lev)) (hn : ¬ nodeC d p.len ≠ 0) (hp : chkF p (num + 1) (lev + 1) = .inl f) : chkF (.cons d p r) num lev = .inl f := by rw [chkF, if_neg h, if_neg hn, hp]
theorem chkF_inr {d : Nd} {p r : VF} {num lev m : Nat} (h : ¬ (600 ≤ num ∨ 10 < lev)) (hn : ¬ nodeC d p.len ≠ 0) (hp : chkF p (num + 1) (lev + 1) = .inr m) : chkF (.cons d p r) num lev = chkF r m lev := by rw [chkF, if_neg h, if_neg hn, hp]
theorem chkF_code (F : VF) : ∀ (num lev : Nat) (c i : Int), chkF F num lev = .inl (c, i) → c ≠ 0 := by
  induction F with
  | nil => intro num lev c i h; cases h
  | cons d p r ih1 ih2 =>
    intro num lev c i h
    by_cases h1 : 600 ≤ num ∨ 10 < lev
    · rw [chkF_many h1] at h; injection h with h; injection h with h; omega
    · by_cases h2 : nodeC d p.len ≠ 0
      · rw [chkF_node h1 h2] at h; injection h with h; injection h with h; omega
      · cases hp : chkF p (num + 1) (lev + 1) with
        | inl f => rw [chkF_inl h1 h2 hp] at h; injection h with h; subst h; exact ih1 _ _ _ _ hp
        | inr m => rw [chkF_inr h1 h2 hp] at h; exact ih2 _ _ _ _ h
theorem chkF_next (F : VF) : ∀ (num lev m : Nat), chkF F num lev = .inr m → num ≤ m ∧ (num ≤ 600 → m ≤ 600) := by
  induction F with
  | nil => intro num lev m h; injection h with h; omega
  | cons d p r ih1 ih2 =>
    intro num lev m h
    by_cases h1 : 600 ≤ num ∨ 10 < lev
    · rw [chkF_many h1] at h; cases h
    · by_cases h2 : nodeC d p.len ≠ 0
      · rw [chkF_node h1 h2] at h; cases h
      · cases hp : chkF p (num + 1) (lev + 1) with
        | inl f => rw [chkF_inl h1 h2 hp] at h; cases h
        | inr k =>
          rw [chkF_inr h1 h2 hp] at h
          have a := ih1 _ _ _ hp
          have b := ih2 _ _ _ h
          omega
end Go.Proofs.Ytolognhjdmkohaa
namespace Go.Proofs.Ytolognhjdmkohaa
open Go.RowKit
set_option linter.unusedVariables false
set_option linter.unusedSimpArgs false

theorem slS : SlT Try.prog 23 9 1 16 := SlT.mk' Try.underlying23 (z := .string ⟨#[]⟩) (by kernel_rfl) rfl (by decide) (by decide)
/-- strings as cells -/
def sv (l : List (List UInt8)) : List Value := l.map fun p => .string ⟨p.toArray⟩
theorem sv_len (l : List (List UInt8)) : (sv l).length = l.length := by simp [sv]
theorem sv_app (a b : List (List UInt8)) : sv (a ++ b) = sv a ++ sv b := by simp [sv]
theorem sv_one (l : List (List UInt8)) : ∀ u ∈ sv l, u.oneCell' = true := by
  intro u hu
  simp only [sv, List.mem_map] at hu
  obtain ⟨b, _, rfl⟩ := hu
  rfl
theorem sv_at {w : World} {B n k : Nat} {A : Option Addr} {xs : List (List UInt8)} (h : Rd w B 1 A n (sv xs)) (hk : k < n) : ∃ (b o : Nat) (s : ByteArray), A = some ⟨b, o, none⟩ ∧ b < B ∧ xs[k]? = some s.data.toList ∧ w.cell? ⟨b, o + k, none⟩ = some (.string s) := by
  obtain ⟨b, o, u, rfl, hb, hu, hc⟩ := h.at_ hk
  unfold sv at hu
  rw [List.getElem?_map] at hu
  cases e : xs[k]? with
  | none => rw [e] at hu; cases hu
  | some p => rw [e] at hu; simp at hu; exact ⟨b, o, ⟨p.toArray⟩, rfl, hb, rfl, by rw [hc, ← hu]⟩

end Go.Proofs.Ytolognhjdmkohaa
namespace Go.Proofs.Ytolognhjdmkohaa
open Go.RowKit
set_option linter.unusedVariables false
set_option linter.unusedSimpArgs false

/-- what the three slices of a node hold; 'Q b o': where its parts lie -/
def Hd (w : World) (B : Nat) (d : Nd) (np : Nat) (Q : Nat → Nat → Prop) (sb sn sp : Value) : Prop :=
  ∃ Ab nb cb An nn cn Ap cp, sb = .slice Ab nb cb ∧ sn = .slice An nn cn ∧ sp = .slice Ap np cp ∧ nb ≤ cb ∧ nn ≤ cn ∧ np ≤ cp ∧ cp ≤ maxLen ∧
    Rd w B 1 Ab nb (bv d.bs) ∧ Rd w B 1 An nn (sv d.ns) ∧ (0 < np → ∃ b o, Ap = some ⟨b, o, none⟩ ∧ b < B ∧ Q b o)
/-- a node's five cells -/
def Cells5 (w : World) (b o : Nat) (d : Nd) (sb sn sp : Value) : Prop :=
  w.cell? ⟨b, o, none⟩ = some (.int .i64 d.k) ∧ w.cell? ⟨b, o + 1, none⟩ = some (.int .i64 d.n) ∧ w.cell? ⟨b, o + 2, none⟩ = some sb ∧ w.cell? ⟨b, o + 3, none⟩ = some sn ∧ w.cell? ⟨b, o + 4, none⟩ = some sp
/-- a forest in memory: the trees stand behind one another, five cells each -/
def FIn (w : World) (B : Nat) : VF → Nat → Nat → Prop
  | .nil, _, _ => True
  | .cons d p r, b, o => (∃ sb sn sp, Cells5 w b o d sb sn sp ∧ Hd w B d p.len (FIn w B p) sb sn sp) ∧ FIn w B r b (o + 5)
/-- the numbers of a node fit an int -/
def NdOk (d : Nd) : Prop := -9223372036854775808 ≤ d.k ∧ d.k ≤ 9223372036854775807 ∧ -9223372036854775808 ≤ d.n ∧ d.n ≤ 9223372036854775807
/-- a value -/
def VIn (w : World) (B : Nat) (v : Value) (d : Nd) (p : VF) : Prop :=
  ∃ sb sn sp, v = .agg #[.int .i64 d.k, .int .i64 d.n, sb, sn, sp] ∧ Hd w B d p.len (FIn w B p) sb sn sp

theorem Hd.mono {w w' : World} {B B' : Nat} {d : Nd} {np : Nat} {Q Q' : Nat → Nat → Prop} {sb sn sp : Value} (h : Hd w B d np Q sb sn sp) (hk : ∀ p : Addr, p.block < B → w'.cell? p = w.cell? p) (hB : B ≤ B') (hQ : ∀ b o, b < B → Q b o → Q' b o) : Hd w' B' d np Q' sb sn sp := by
  obtain ⟨Ab, nb, cb, An, nn, cn, Ap, cp, h1, h2, h3, h4, h5, h6, h6', h7, h8, h9⟩ := h
  refine ⟨Ab, nb, cb, An, nn, cn, Ap, cp, h1, h2, h3, h4, h5, h6, h6', (h7.keep hk).more hB, (h8.keep hk).more hB, fun h0 => ?_⟩
  obtain ⟨b, o, e, hb, hq⟩ := h9 h0
  exact ⟨b, o, e, by omega, hQ b o hb hq⟩
theorem FIn.keep {w w' : World} {B B' : Nat} (hk : ∀ p : Addr, p.block < B → w'.cell? p = w.cell? p) (hB : B ≤ B') : ∀ (F : VF) (b o : Nat), b < B → FIn w B F b o → FIn w' B' F b o := by
  intro F
  induction F with
  | nil => intro b o _ _; trivial
  | cons d p r ih1 ih2 =>
    rintro b o hb ⟨⟨sb, sn, sp, ⟨c0, c1, c2, c3, c4⟩, hd⟩, hr⟩
    refine ⟨⟨sb, sn, sp, ⟨(hk _ hb).trans c0, (hk _ hb).trans c1, (hk _ hb).trans c2, (hk _ hb).trans c3, (hk _ hb).trans c4⟩, hd.mono hk hB ih1⟩, ih2 b _ hb hr⟩
theorem VIn.keep {w w' : World} {B B' : Nat} {v : Value} {d : Nd} {p : VF} (h : VIn w B v d p) (hk : ∀ p : Addr, p.block < B → w'.cell? p = w.cell? p) (hB : B ≤ B') : VIn w' B' v d p := by
  obtain ⟨sb, sn, sp, e, h⟩ := h
  exact ⟨sb, sn, sp, e, h.mono hk hB (FIn.keep hk hB p)⟩
theorem VIn.below {w w' : World} {B B' : Nat} {v : Value} {d : Nd} {p : VF} (h : VIn w B v d p) (hb : Below B' w w') (h1 : B ≤ B') : VIn w' B v d p := h.keep (fun q hq => hb.cell (by omega)) (Nat.le_refl _)
theorem VIn.on {w w' : World} {v : Value} {d : Nd} {p : VF} (h : VIn w w.heap.size v d p) (hb : Below w.heap.size w w') : VIn w' w'.heap.size v d p := h.keep (fun q hq => hb.cell hq) hb.size
theorem FIn.below {w w' : World} {B B' b o : Nat} {F : VF} (h : FIn w B F b o) (hb0 : b < B) (hb : Below B' w w') (h1 : B ≤ B') : FIn w' B F b o := FIn.keep (fun q hq => hb.cell (by omega)) (Nat.le_refl _) F b o hb0 h
theorem FIn.on {w w' : World} {b o : Nat} {F : VF} (h : FIn w w.heap.size F b o) (hb0 : b < w.heap.size) (hb : Below w.heap.size w w') : FIn w' w'.heap.size F b o := FIn.keep (fun q hq => hb.cell hq) hb.size F b o hb0 h
theorem FIn.drop {w : World} {B : Nat} : ∀ (F : VF) (b o i : Nat), FIn w B F b o → FIn w B (F.drop i) b (o + i * 5) := by
  intro F
  induction F with
  | nil => intro b o i _; cases i <;> trivial
  | cons d p r _ ih =>
    intro b o i h
    cases i with
    | zero => rw [Nat.zero_mul, Nat.add_zero]; exact h
    | succ i =>
      have := ih b (o + 5) i h.2
      rw [show o + (i + 1) * 5 = o + 5 + i * 5 by omega]
      exact this
/-- the tree at place i -/
theorem FIn.at_ {w : World} {B b o i : Nat} {F : VF} {d : Nd} {p r : VF} (h : FIn w B F b o) (hd : F.drop i = .cons d p r) : ∃ sb sn sp, Cells5 w b (o + i * 5) d sb sn sp ∧ Hd w B d p.len (FIn w B p) sb sn sp := by
  have := FIn.drop F b o i h
  rw [hd] at this
  exact this.1
end Go.Proofs.Ytolognhjdmkohaa
namespace Go.Proofs.Ytolognhjdmkohaa
open Go.RowKit
set_option linter.unusedVariables false
set_option linter.unusedSimpArgs false

theorem iv_at {w : World} {B n k : Nat} {A : Option Addr} {xs : List Int} (h : Rd w B 1 A n (iv xs)) (hk : k < n) : ∃ b o x, A = some ⟨b, o, none⟩ ∧ b < B ∧ xs[k]? = some x ∧ w.cell? ⟨b, o + k, none⟩ = some (.int .i64 x) := by
  obtain ⟨b, o, u, rfl, hb, hu, hc⟩ := h.at_ hk
  unfold iv at hu
  rw [List.getElem?_map] at hu
  cases e : xs[k]? with
  | none => rw [e] at hu; cases hu
  | some p => rw [e] at hu; simp at hu; exact ⟨b, o, p, rfl, hb, rfl, by rw [hc, ← hu]⟩
/-- what a search answers: whether the place is there -/
def SrEnd (t : Bool) (w : World) (e : Ending) (w' : World) : Prop := ∃ n : Int, e = .returned (.int .i64 n) ∧ decide (0 ≤ n) = t ∧ w = w'
/-- is x among xs? (a plain word, out of simp's reach) -/
def hasB {α : Type} [BEq α] (xs : List α) (x : α) : Bool := xs.contains x
def SrRel {α : Type} [BEq α] (xs : List α) (x : α) (k : Value) : Prop := ∃ i : Nat, i ≤ xs.length ∧ k = .int .i64 (i : Int) ∧ hasB (xs.take i) x = false
theorem sr_yes {α : Type} [BEq α] [LawfulBEq α] {xs : List α} {x : α} {i : Nat} (h : xs[i]? = some x) : hasB xs x = true := by
  unfold hasB
  rw [List.contains_iff_mem]; exact List.mem_of_getElem? h
theorem sr_more {α : Type} [BEq α] [LawfulBEq α] {xs : List α} {x y : α} {i : Nat} (h : xs[i]? = some y) (hne : ¬ x = y) (hl : hasB (xs.take i) x = false) : hasB (xs.take (i + 1)) x = false := by
  rw [List.take_add_one, h, Option.toList_some]
  unfold hasB at *
  have h1 : ¬ x ∈ xs.take i := fun hm => by rw [List.contains_iff_mem.2 hm] at hl; cases hl
  cases e : (xs.take i ++ [y]).contains x with
  | false => rfl
  | true =>
    rw [List.contains_iff_mem, List.mem_append, List.mem_singleton] at e
    rcases e with e | e
    · exact absurd e h1
    · exact absurd e hne
theorem sr_all {α : Type} [BEq α] {xs : List α} {x : α} {i : Nat} (h : xs.length ≤ i) (hl : hasB (xs.take i) x = false) : hasB xs x = false := by
  rwa [List.take_of_length_le h] at hl

theorem indexInts_calls {w : World} {B : Nat} {A : Option Addr} {n c : Nat} {xs : List Int} {x : Int} (h : Rd w B 1 A n (iv xs)) (hn : n ≤ 9223372036854775807) : Calls Try.prog 88 #[.slice A n c, .int .i64 x] w (SrEnd (hasB xs x) w) := by
  have HL := Lib.hid (show xs.length = n by have := h.len; rw [iv_len] at this; exact this)
  have HR := Lib.hid h
  clear h
  go_enter Try.func88, Try.ntmps88
  go_wp2_with fail
  go_loop [8] (SrRel xs x) (fun k => n - (intOf k).toNat)
  case atStart => exact ⟨0, Nat.zero_le _, rfl, rfl⟩
  case round =>
    obtain ⟨i, hi, rfl, hf⟩ := hrel
    rw [HL.out] at hi
    have HF := Lib.hid hf
    clear hf
    by_cases hlt : i < n
    · obtain ⟨b, o, y, rfl, hb, hy, hc⟩ := iv_at HR.out hlt
      have HY := Lib.hid hy
      have hli : (i : Int) < (n : Int) := by omega
      have h0 : (0 : Int) ≤ (i : Int) := by omega
      clear hy
      by_cases hxy : x = y
      · subst hxy
        go_wp2_with fail
        go_ret
        exact ⟨i, rfl, by rw [sr_yes HY.out]; simp, rfl⟩
      · have hxy' : (x == y) = false := by simpa using hxy
        have HNE := Lib.hid hxy
        clear hxy
        go_wp2_with fail
        go_round
        case rel => exact ⟨i + 1, by rw [HL.out]; omega, by go_num, sr_more HY.out HNE.out HF.out⟩
        case measure => simp [intOf]; omega
    · go_wp2_with fail
      go_ret
      exact ⟨-1, rfl, by rw [sr_all (by rw [HL.out]; omega) HF.out]; rfl, rfl⟩
theorem containsInts_calls {w : World} {B : Nat} {A : Option Addr} {n c : Nat} {xs : List Int} {x : Int} (h : Rd w B 1 A n (iv xs)) (hn : n ≤ 9223372036854775807) : Calls Try.prog 77 #[.slice A n c, .int .i64 x] w fun e w' => e = .returned (.bool (hasB xs x)) ∧ w = w' := by
  go_enter Try.func77, Try.ntmps77
  go_wp2_with fail
  refine (indexInts_calls h hn).mono ?_
  rintro e w' ⟨m, rfl, hm, rfl⟩
  have HM := Lib.hid hm
  clear hm
  go_wp2_with fail
  go_ret
  exact ⟨by rw [← HM.out]; rfl, rfl⟩

theorem indexStrs_calls {w : World} {B : Nat} {A : Option Addr} {n c : Nat} {xs : List (List UInt8)} {s : ByteArray} (h : Rd w B 1 A n (sv xs)) (hn : n ≤ 9223372036854775807) : Calls Try.prog 90 #[.slice A n c, .string s] w (SrEnd (hasB xs s.data.toList) w) := by
  have HL := Lib.hid (show xs.length = n by have := h.len; rw [sv_len] at this; exact this)
  have HR := Lib.hid h
  clear h
  go_enter Try.func90, Try.ntmps90
  go_wp2_with fail
  go_loop [8] (SrRel xs s.data.toList) (fun k => n - (intOf k).toNat)
  case atStart => exact ⟨0, Nat.zero_le _, rfl, rfl⟩
  case round =>
    obtain ⟨i, hi, rfl, hf⟩ := hrel
    rw [HL.out] at hi
    have HF := Lib.hid hf
    clear hf
    by_cases hlt : i < n
    · obtain ⟨b, o, y, rfl, hb, hy, hc⟩ := sv_at HR.out hlt
      have HY := Lib.hid hy
      have hli : (i : Int) < (n : Int) := by omega
      have h0 : (0 : Int) ≤ (i : Int) := by omega
      clear hy
      by_cases hxy : s = y
      · subst hxy
        go_wp2_with fail
        go_ret
        exact ⟨i, rfl, by rw [sr_yes HY.out]; simp, rfl⟩
      · have hne : ¬ s.toList = y.toList := fun e => hxy (by
          rw [Lib.toList_data, Lib.toList_data] at e
          obtain ⟨⟨l⟩⟩ := s; obtain ⟨⟨m⟩⟩ := y; simp at e; rw [e])
        have hxy' : (s.toList == y.toList) = false := by simpa using hne
        have HNE := Lib.hid (show ¬ s.data.toList = y.data.toList by rw [← Lib.toList_data, ← Lib.toList_data]; exact hne)
        clear hxy hne
        go_wp2_with fail
        go_round
        case rel => exact ⟨i + 1, by rw [HL.out]; omega, by go_num, sr_more HY.out HNE.out HF.out⟩
        case measure => simp [intOf]; omega
    · go_wp2_with fail
      go_ret
      exact ⟨-1, rfl, by rw [sr_all (by rw [HL.out]; omega) HF.out]; rfl, rfl⟩
theorem containsStrs_calls {w : World} {B : Nat} {A : Option Addr} {n c : Nat} {xs : List (List UInt8)} {s : ByteArray} (h : Rd w B 1 A n (sv xs)) (hn : n ≤ 9223372036854775807) : Calls Try.prog 80 #[.slice A n c, .string s] w fun e w' => e = .returned (.bool (hasB xs s.data.toList)) ∧ w = w' := by
  go_enter Try.func80, Try.ntmps80
  go_wp2_with fail
  refine (indexStrs_calls h hn).mono ?_
  rintro e w' ⟨m, rfl, hm, rfl⟩
  have HM := Lib.hid hm
  clear hm
  go_wp2_with fail
  go_ret
  exact ⟨by rw [← HM.out]; rfl, rfl⟩

/-- the test of one name -/
theorem notName_calls (s : ByteArray) (w : World) (hs : s.size ≤ 9223372036854775807) : Calls Try.prog 79 #[.string s] w fun e w' => e = .returned (.bool (!(isName s.data.toList))) ∧ Below w.heap.size w w' := by
  go_enter Try.func79, Try.ntmps79
  go_wp2_with fail
  refine (name_calls s _ hs).mono ?_
  rintro e w' ⟨rfl, hb⟩
  go_wp2_with fail
  go_ret
  exact ⟨rfl, hb⟩
def NmEnd (t : Bool) (w : World) (e : Ending) (w' : World) : Prop := ∃ n : Int, e = .returned (.int .i64 n) ∧ decide (0 ≤ n) = t ∧ Below w.heap.size w w'
def NmRel (xs : List (List UInt8)) (w : World) (k : Value) (wr : World) : Prop := ∃ i : Nat, i ≤ xs.length ∧ k = .int .i64 (i : Int) ∧ (xs.take i).all isName = true ∧ Below w.heap.size w wr
theorem names_bad {xs : List (List UInt8)} {i : Nat} {s : List UInt8} (h : xs[i]? = some s) (hs : isName s = false) : xs.all isName = false := by
  rw [List.all_eq_false]; exact ⟨s, List.mem_of_getElem? h, by simp [hs]⟩
theorem names_more {xs : List (List UInt8)} {i : Nat} {s : List UInt8} (h : xs[i]? = some s) (hs : isName s = true) (hl : (xs.take i).all isName = true) : (xs.take (i + 1)).all isName = true := by
  rw [List.take_add_one, h, Option.toList_some, List.all_append, hl]; simp [hs]
/-- lengths of strings in memory -/
def Small (xs : List (List UInt8)) : Prop := ∀ x ∈ xs, x.length ≤ 9223372036854775807
set_option maxRecDepth 100000 in
theorem indexNames_calls {w : World} {A : Option Addr} {n c : Nat} {xs : List (List UInt8)} (h : Rd w w.heap.size 1 A n (sv xs)) (hn : n ≤ 9223372036854775807) (hx : Small xs) : Calls Try.prog 89 #[.slice A n c, .func (.func 79) #[] #[]] w (NmEnd (!(xs.all isName)) w) := by
  have HL := Lib.hid (show xs.length = n by have := h.len; rw [sv_len] at this; exact this)
  have HR := Lib.hid h
  have HX := Lib.hid hx
  clear h hx
  go_enter Try.func89, Try.ntmps89
  go_wp2_with fail
  go_loopw [8] (NmRel xs w) (fun k _ => n - (intOf k).toNat)
  case atStart => exact ⟨0, Nat.zero_le _, rfl, rfl, Below.refl _ _⟩
  case round =>
    obtain ⟨i, hi, rfl, hf, hbw⟩ := hrel
    rw [HL.out] at hi
    have HF := Lib.hid hf
    have HB := Lib.hid hbw
    clear hf hbw
    by_cases hlt : i < n
    · obtain ⟨b, o, s, rfl, hb, hy, hc⟩ := sv_at HR.out hlt
      have HY := Lib.hid hy
      have hc' : wr.cell? ⟨b, o + i, none⟩ = some (.string s) := (HB.out.cell (by exact hb)).trans hc
      have hsz : s.size ≤ 9223372036854775807 := by simpa using HX.out _ (List.mem_of_getElem? hy)
      have hli : (i : Int) < (n : Int) := by omega
      have h0 : (0 : Int) ≤ (i : Int) := by omega
      clear hy hc
      go_wp2_with fail
      refine (notName_calls s _ hsz).mono ?_
      rintro e w2 ⟨rfl, hb2⟩
      have HB2 := Lib.hid (HB.out.trans (hb2.mono HB.out.size))
      clear hb2
      by_cases hnm : isName s.data.toList = true
      · have HNM := Lib.hid hnm
        rw [HNM.out]
        clear hnm
        go_wp2_with fail
        go_roundw
        case rel => exact ⟨i + 1, by rw [HL.out]; omega, by go_num, names_more HY.out HNM.out HF.out, HB2.out⟩
        case measure => simp [intOf]; omega
      · have HNM := Lib.hid (show isName s.data.toList = false by simpa using hnm)
        rw [HNM.out]
        clear hnm
        go_wp2_with fail
        go_ret
        exact ⟨i, rfl, by rw [names_bad HY.out HNM.out]; simp, HB2.out⟩
    · go_wp2_with fail
      go_ret
      refine ⟨-1, rfl, ?_, HB.out⟩
      have := HF.out
      rw [List.take_of_length_le (by rw [HL.out]; omega)] at this
      rw [this]; rfl
theorem containsNames_calls {w : World} {A : Option Addr} {n c : Nat} {xs : List (List UInt8)} (h : Rd w w.heap.size 1 A n (sv xs)) (hn : n ≤ 9223372036854775807) (hx : Small xs) : Calls Try.prog 78 #[.slice A n c, .func (.func 79) #[] #[]] w fun e w' => e = .returned (.bool (!(xs.all isName))) ∧ Below w.heap.size w w' := by
  go_enter Try.func78, Try.ntmps78
  go_wp2_with fail
  refine (indexNames_calls h hn hx).mono ?_
  rintro e w' ⟨m, rfl, hm, hb⟩
  have HM := Lib.hid hm
  clear hm
  go_wp2_with fail
  go_ret
  exact ⟨by rw [← HM.out]; rfl, hb⟩
/-- 'has': is the node's kind among these? -/
theorem has_calls {w : World} {B g : Nat} {A : Option Addr} {n c : Nat} {xs : List Int} {k : Int} (h : Rd w B 1 A n (iv xs)) (hn : n ≤ 9223372036854775807) (hk : w.cell? ⟨g, 0, none⟩ = some (.int .i64 k)) : Calls Try.prog 76 #[.slice A n c, .pointer (some ⟨g, 0, none⟩)] w fun e w' => e = .returned (.bool (hasB xs k)) ∧ w = w' := by
  go_enter Try.func76, Try.ntmps76
  go_wp2_with fail
  refine (containsInts_calls h hn).mono ?_
  rintro e w' ⟨rfl, rfl⟩
  go_wp2_with fail
  go_ret
  exact ⟨rfl, rfl⟩
end Go.Proofs.Ytolognhjdmkohaa
namespace Go.Proofs.Ytolognhjdmkohaa
open Go.RowKit
set_option linter.unusedVariables false
set_option linter.unusedSimpArgs false

theorem Rd.lit (w : World) (cs : Array Value) (e : TypeId) : Rd (w.alloc (.cells cs e)) (w.heap.size + 1) 1 (some ⟨w.heap.size, 0, none⟩) cs.size cs.toList := by
  refine ⟨by simp, fun _ => ⟨_, _, rfl, by omega, fun j u hu => ?_⟩⟩
  rw [cell_of_row _ w.heap.size (0 + j) cs e (0, 0) (heap_alloc_new w _)]
  simpa using hu
theorem alloc_size (w : World) (o : Obj) : (w.alloc o).heap.size = w.heap.size + 1 := by simp
theorem cell_up {w : World} {p : Addr} {v : Value} {o : Obj} (h : w.cell? p = some v) : (w.alloc o).cell? p = some v := (World.cell?_alloc_some _ _ _ (by rw [h]; rfl)).trans h
theorem box0 (w : World) (a b c d e : Value) (T : TypeId) : (w.alloc (.cells #[a, b, c, d, e] T)).cell? ⟨w.heap.size, 0, none⟩ = some a := by simp
theorem box3 (w : World) (a b c d e : Value) (T : TypeId) : (w.alloc (.cells #[a, b, c, d, e] T)).cell? ⟨w.heap.size, 3, none⟩ = some d := by simp
theorem has_lit {w : World} {g gk n c : Nat} {cs : Array Value} {ty : TypeId} {t : Bool} (xs : List Int) (k : Int) (hg : gk = w.heap.size) (hx : cs = (iv xs).toArray) (hn : n = xs.length) (hk : w.cell? ⟨g, 0, none⟩ = some (.int .i64 k)) (hl : xs.length ≤ 10) (hres : hasB xs k = t) :
    Calls Try.prog 76 #[.slice (some ⟨gk, 0, none⟩) n c, .pointer (some ⟨g, 0, none⟩)] (w.alloc (.cells cs ty)) fun e w' => e = .returned (.bool t) ∧ w.alloc (.cells cs ty) = w' := by
  subst hg hx hn hres
  have h := Rd.lit w (iv xs).toArray ty
  simp only [List.size_toArray, iv_len] at h
  exact has_calls h (by omega) ((World.cell?_alloc_some _ _ _ (by rw [hk]; rfl)).trans hk)
theorem chain {w w1 w2 : World} (h1 : Below w.heap.size w w1) (h2 : Below w1.heap.size w1 w2) : Below w.heap.size w w2 := h1.trans (h2.mono h1.size)
theorem makeF (fn : Fn) (first cap : Array Value) (w : World) : (Instr.makeFunc fn first cap).run Try.prog w = .ok (.func fn first cap) w := rfl

/-- the code of a node whose form is right -/
def tailC (ns : List (List UInt8)) (np : Nat) : Int := if 600 < np then 14 else if ns.all isName = false then 7 else if ¬ ns.Nodup then 8 else 0
def DupRel (ns : List (List UInt8)) (k : Value) : Prop := ∃ i : Nat, i ≤ ns.length ∧ k = .int .i64 (i : Int) ∧ (ns.take i).Nodup
theorem dup_more {ns : List (List UInt8)} {i : Nat} {s : List UInt8} (h : ns[i]? = some s) (hl : (ns.take i).Nodup) (hs : hasB (ns.take i) s = false) : (ns.take (i + 1)).Nodup := by
  rw [List.take_add_one, h, Option.toList_some, List.nodup_append]
  refine ⟨hl, by simp, fun a ha b hb => ?_⟩
  rw [List.mem_singleton.1 hb]
  rintro rfl
  unfold hasB at hs
  rw [List.contains_iff_mem.2 ha] at hs
  cases hs
theorem dup_yes {ns : List (List UInt8)} {i : Nat} {s : List UInt8} (h : ns[i]? = some s) (hs : hasB (ns.take i) s = true) : ¬ ns.Nodup := by
  intro hn
  have hm : s ∈ ns.take i := List.contains_iff_mem.1 hs
  have h1 : (ns.take (i + 1)).Nodup := hn.sublist (List.take_sublist _ _)
  rw [List.take_add_one, h, Option.toList_some, List.nodup_append] at h1
  exact h1.2.2 s hm s (by simp) rfl
theorem tail_14 {ns : List (List UInt8)} {np : Nat} (h : 600 < np) : tailC ns np = 14 := by unfold tailC; rw [if_pos h]
theorem tail_7 {ns : List (List UInt8)} {np : Nat} (h : ¬ 600 < np) (h1 : ns.all isName = false) : tailC ns np = 7 := by unfold tailC; rw [if_neg h, if_pos h1]
theorem tail_8 {ns : List (List UInt8)} {np : Nat} (h : ¬ 600 < np) (h1 : ns.all isName = true) (h2 : ¬ ns.Nodup) : tailC ns np = 8 := by unfold tailC; rw [if_neg h, if_neg (by rw [h1]; simp), if_pos h2]
theorem tail_0 {ns : List (List UInt8)} {np : Nat} (h : ¬ 600 < np) (h1 : ns.all isName = true) (h2 : ns.Nodup) : tailC ns np = 0 := by unfold tailC; rw [if_neg h, if_neg (by rw [h1]; simp), if_neg (by simpa using h2)]

theorem sv_cut (ns : List (List UInt8)) (i : Nat) : ((sv ns).drop (0 * 1)).take (i * 1) = sv (ns.take i) := by simp [sv]
set_option maxRecDepth 100000 in
set_option maxHeartbeats 1000000 in
theorem node_kind {w : World} {k n : Int} {sb sn sp : Value} (hk : k < 1 ∨ 4 < k) :
    Calls Try.prog 62 #[.agg #[.int .i64 k, .int .i64 n, sb, sn, sp]] w fun e w' => e = .returned (.int .i64 5) ∧ Below w.heap.size w w' := by
  have HK := Lib.hid (show hasB [(1 : Int), 2, 3, 4] k = false by
    unfold hasB
    have h1 : ¬ k = 1 := by omega
    have h2 : ¬ k = 2 := by omega
    have h3 : ¬ k = 3 := by omega
    have h4 : ¬ k = 4 := by omega
    simp [h1, h2, h3, h4])
  clear hk
  have hmf := makeF
  go_enter Try.func62, Try.ntmps62
  go_wp2_with fail
  refine (has_lit (t := false) [1, 2, 3, 4] k (by simp only [alloc_size]) rfl rfl (by repeat (first | exact box0 _ _ _ _ _ _ _ | refine cell_up ?_)) (by decide) (by exact HK.out)).mono ?_
  rintro e w' ⟨rfl, rfl⟩
  go_wp2_with fail
  go_ret
  exact ⟨rfl, (by repeat (first | exact Below.refl _ _ | (refine Below.alloc ?_ (by first | exact Nat.le_refl _ | (simp only [alloc_size]; omega)) _)))⟩
end Go.Proofs.Ytolognhjdmkohaa
