/-
  The contract of wire.Number and of the reference's Put.
-/
/-
  The contract of the reference's Put: it writes the encoding that wire.Number writes.
-/
/-
  The contract of wire.ReadNumber.
-/
import Derived.Test.YtolognhjdmkohaaJ1
import Derived.Test.YtolognhjdmkohaaJ2
import Derived.Outline
import Derived.KernelRfl
import Derived.Deep.DeepCutAuto
namespace Go.Proofs.Ytolognhjdmkohaa
open Go.RowKit
set_option linter.unusedVariables false
set_option linter.unusedSimpArgs false

def NumRel (w : World) (m : List UInt8) (u v : Value) (wr : World) : Prop :=
  ∃ (x : Nat) (acc : List UInt8) (A : Option Addr) (c : Nat), u = .int .u64 (x : Int) ∧ v = .slice A acc.length c ∧ wr.ownsRow w.heap.size 5 1 (.slice A acc.length c) acc.length (bv acc) ∧ Below w.heap.size w wr ∧ acc ++ enc x = m

theorem num_step {n : Int} {acc : List UInt8} {x : Nat} (h : acc ++ enc x = num n) (hx : ¬ x < 128) : (acc ++ [UInt8.ofNat (x % 128 + 128)]) ++ enc (x / 128) = num n := by
  rw [← h, enc_ge (by omega : 128 ≤ x)]; simp
set_option maxRecDepth 100000 in
set_option maxHeartbeats 400000 in
theorem number_calls (n : Int) (w : World) (h1 : -9223372036854775808 ≤ n) (h2 : n ≤ 9223372036854775807) :
    Calls Try.prog 63 #[.int .i64 n] w (Made w (num n)) := by
  have hl := num_len n h1 h2
  go_enter Try.func63, Try.ntmps63
  go_wp2_with fail
  rw [zig_bits n h1 h2]
  go_loopw [3, 4] (fun u v wr => NumRel w (num n) u v wr) (fun u _ _ => (intOf u).toNat)
  case atStart => exact ⟨zig n, [], none, 0, rfl, rfl, World.ownsRow_nil _ _ _ _, Below.refl _ _, rfl⟩
  case round =>
    obtain ⟨x, acc, A, c, rfl, rfl, hown, hb, he⟩ := hrel
    have HE := Lib.hid he
    have hal : acc.length + (enc x).length ≤ 10 := by
      have := congrArg List.length he
      rw [List.length_append] at this
      omega
    have hsz := hb.size
    clear he h1 h2
    by_cases hx : x < 128
    · have hxx : (x : Int) < 128 := by omega
      go_wp2_with (first
        | (at_builtin
           refine wpList_app1 _ slB rfl (.tmp 22) (.tmp 25) rfl w.heap.size A acc.length c (bv acc) rfl hown _ rfl rfl (by omega) hsz hb (Nat.le_refl _) ?_
           intro A1 c1 w1 hown1 _ hb1))
      go_ret
      have e : acc ++ [UInt8.ofNat x] = num n := by rw [← HE.out, enc_lt hx]
      rw [← e]
      exact made_snoc hown1 (byte_lt x (by omega)) hb1
    · go_wp2_with (first
        | (at_builtin
           refine wpList_app1 _ slB rfl (.tmp 16) (.tmp 20) rfl w.heap.size A acc.length c (bv acc) rfl hown _ rfl rfl (by omega) hsz hb (Nat.le_refl _) ?_
           intro A1 c1 w1 hown1 _ hb1))
      go_roundw
      case rel => exact ⟨x / 128, _, A1, c1, by go_num, by rw [← snoc_len], own_snoc hown1 (byte_or x), hb1, num_step HE.out hx⟩
      case measure => simp [intOf]; omega
end Go.Proofs.Ytolognhjdmkohaa
namespace Go.Proofs.Ytolognhjdmkohaa
open Go.RowKit
set_option linter.unusedVariables false
set_option linter.unusedSimpArgs false

theorem slI : SlT Try.prog 46 3 1 8 := SlT.mk' Try.underlying46 (z := .int .i64 0) (by kernel_rfl) rfl (by decide) (by decide)
/-- numbers as cells -/
def iv (l : List Int) : List Value := l.map (Value.int .i64)
theorem iv_len (l : List Int) : (iv l).length = l.length := by simp [iv]
theorem iv_app (a b : List Int) : iv (a ++ b) = iv a ++ iv b := by simp [iv]
theorem iv_one (l : List Int) : ∀ u ∈ iv l, u.oneCell' = true := by
  intro u hu
  simp only [iv, List.mem_map] at hu
  obtain ⟨b, _, rfl⟩ := hu
  rfl
/-- small numbers as cells -/
def nv (l : List Nat) : List Value := l.map fun (g : Nat) => Value.int .i64 (g : Int)
theorem nv_snoc (l : List Nat) (g : Nat) : nv (l ++ [g]) = nv l ++ [.int .i64 (g : Int)] := by simp [nv]

def PutRel (w : World) (m : Nat) (u v : Value) (wr : World) : Prop :=
  ∃ (x : Nat) (acc : List Nat) (A : Option Addr) (c : Nat), u = .int .u64 (x : Int) ∧ v = .slice A acc.length c ∧ wr.ownsRow w.heap.size 3 1 (.slice A acc.length c) acc.length (nv acc) ∧ Below w.heap.size w wr ∧ (x : Int) < 18446744073709551616 ∧
    ((acc = [] ∧ x = m) ∨ (acc ≠ [] ∧ acc ++ grpR x = grp m))
def PutRel2 (w w1 : World) (m : Nat) (v k : Value) (wr : World) : Prop :=
  ∃ (i : Nat) (A : Option Addr) (c : Nat), k = .int .i64 (i : Int) ∧ i ≤ (enc m).length ∧ v = .slice A i c ∧ wr.ownsRow w1.heap.size 5 1 (.slice A i c) i (bv ((enc m).take i)) ∧ Below w1.heap.size w1 wr ∧ Below w.heap.size w wr

theorem val_zig (n u : Int) (h : u = ((zig n : Nat) : Int)) (w : World) : Value.int .u64 u = .int .u64 ((zig n : Nat) : Int) ∧ w = w := ⟨by rw [h], rfl⟩
def putM (u v : Value) : Nat := match v with | .slice _ 0 _ => (intOf u).toNat + 1 | _ => (intOf u).toNat
theorem putM_step (x : Nat) (acc : List Nat) (A A' : Option Addr) (c c' : Nat) (h : acc = [] ∨ 0 < x) : putM (.int .u64 ((x : Int) / 128)) (.slice A' (acc.length + 1) c') < putM (.int .u64 (x : Int)) (.slice A acc.length c) := by
  have e1 : putM (.int .u64 ((x : Int) / 128)) (.slice A' (acc.length + 1) c') = x / 128 := by simp [putM, intOf]; omega
  rw [e1]
  rcases acc with _ | ⟨g, acc⟩
  · simp [putM, intOf]; omega
  · simp [putM, intOf]
    rcases h with h | h
    · cases h
    · omega
theorem put_step {x m : Nat} {acc : List Nat} (h : (acc = [] ∧ x = m) ∨ (acc ≠ [] ∧ acc ++ grpR x = grp m)) (hx : acc = [] ∨ 0 < x) : acc ++ [x % 128] ≠ [] ∧ (acc ++ [x % 128]) ++ grpR (x / 128) = grp m := by
  refine ⟨by simp, ?_⟩
  rcases h with ⟨rfl, rfl⟩ | ⟨h1, h2⟩
  · simp [grp]
  · rcases hx with hx | hx
    · exact absurd hx h1
    · rw [← h2, grpR_pos hx]; simp
theorem put_len {n : Int} {x : Nat} {acc : List Nat} (h1 : -9223372036854775808 ≤ n) (h2 : n ≤ 9223372036854775807) (h : (acc = [] ∧ x = zig n) ∨ (acc ≠ [] ∧ acc ++ grpR x = grp (zig n))) : acc.length ≤ 10 := by
  have hg := (grp_num (zig n) (zig_lt n h1 h2)).1
  have hl := num_len n h1 h2
  unfold num at hl
  rcases h with ⟨rfl, _⟩ | ⟨_, h⟩
  · simp
  · rw [hg, ← h, List.length_append] at hl; omega
theorem put_done {x m : Nat} {acc : List Nat} (h : (acc = [] ∧ x = m) ∨ (acc ≠ [] ∧ acc ++ grpR x = grp m)) (ha : acc ≠ []) (hx : ¬ 0 < x) : acc = grp m := by
  rcases h with ⟨h, _⟩ | ⟨_, h⟩
  · exact absurd h ha
  · obtain rfl : x = 0 := by omega
    rw [grpR_zero, List.append_nil] at h; exact h
theorem own_take {w : World} {base : Nat} {A : Option Addr} {c i : Nat} {m : List UInt8} {b : UInt8} {v : Int} (h : w.ownsRow base 5 1 (.slice A (i + 1) c) (i + 1) (bv (m.take i) ++ [.int .u8 v]))
    (hb : m[i]? = some b) (hv : v = (b.toNat : Int)) : w.ownsRow base 5 1 (.slice A (i + 1) c) (i + 1) (bv (m.take (i + 1))) := by
  subst hv
  have hi : i < m.length := (List.getElem?_eq_some_iff.1 hb).1
  have e : m.take (i + 1) = m.take i ++ [b] := by
    rw [List.take_succ_eq_append_getElem hi]
    rw [List.getElem?_eq_getElem hi] at hb
    injection hb with hb
    rw [hb]
  rw [e, bv_app]
  exact h
theorem made_of {w0 w : World} {A : Option Addr} {c i base : Nat} {m : List UInt8} (h : w.ownsRow base 5 1 (.slice A i c) i (bv (m.take i))) (hi : i = m.length) (hB : w0.heap.size ≤ base) (hb : Below w0.heap.size w0 w) :
    Made w0 m (.returned (.slice A i c)) w := by
  subst hi
  rw [List.take_length] at h
  exact ⟨A, c, rfl, own_mono h hB, hb⟩
theorem nv_own {w : World} {base : Nat} {A : Option Addr} {c : Nat} {acc : List Nat} {x : Nat} (h : w.ownsRow base 3 1 (.slice A (acc.length + 1) c) (acc.length + 1) (nv acc ++ [.int .i64 ((x : Int) % 128)])) :
    w.ownsRow base 3 1 (.slice A (acc ++ [x % 128]).length c) (acc ++ [x % 128]).length (nv (acc ++ [x % 128])) := by
  rw [nv_snoc, List.length_append]
  exact h

set_option maxRecDepth 100000 in
set_option maxHeartbeats 400000 in
theorem put_calls (n : Int) (w : World) (h1 : -9223372036854775808 ≤ n) (h2 : n ≤ 9223372036854775807) :
    Calls Try.prog 47 #[.int .i64 n] w (Made w (num n)) := by
  have hl := num_len n h1 h2
  go_enter Try.func47, Try.ntmps47
  go_upto_if 8 with (fail)
  go_cut [3] (fun u wx => u = .int .u64 ((zig n : Nat) : Int) ∧ wx = w)
  case first =>
    by_cases hn : 0 ≤ n
    · go_wp2_with fail
      go_meet
      exact val_zig n _ (by unfold zig; rw [if_pos hn]; omega) _
    · go_wp2_with fail
      go_meet
      exact val_zig n _ (by unfold zig; rw [if_neg (by omega)]; omega) _
  case rest =>
    obtain ⟨rfl, rfl⟩ := hcut
    have H1 := Lib.hid h1
    have H2 := Lib.hid h2
    clear h1 h2
    go_wp2_with fail
    go_loopw [3, 4] (fun u v wr => PutRel wc (zig n) u v wr) (fun u v _ => putM u v)
    case atStart => exact ⟨zig n, [], none, 0, rfl, rfl, World.ownsRow_nil _ _ _ _, Below.refl _ _, by have := zig_lt n H1.out H2.out; omega, .inl ⟨rfl, rfl⟩⟩
    case round =>
      obtain ⟨x, acc, A, c, rfl, rfl, hown, hb, hx64, he⟩ := hrel
      have hsz := hb.size
      have hal := put_len H1.out H2.out he
      have HE := Lib.hid he
      clear he
      by_cases ha0 : acc = []
      · have HR := Lib.hid (put_step HE.out (.inl ha0))
        have HA := Lib.hid ha0
        have ha : ((acc.length : Int) == 0) = true := by rw [ha0]; rfl
        clear ha0
        go_wp2_with (first
          | (at_builtin
             refine wpList_app1 _ slI rfl (.tmp 25) (.tmp 29) rfl wc.heap.size A acc.length c (nv acc) rfl hown _ rfl rfl (by omega) hsz hb (Nat.le_refl _) ?_
             intro A1 c1 w1 hown1 _ hb1))
        go_roundw
        case rel => exact ⟨x / 128, _, A1, c1, by go_num, by simp, nv_own hown1, hb1, by omega, .inr HR.out⟩
        case measure => exact putM_step x acc _ _ _ _ (.inl HA.out)
      · have ha : ((acc.length : Int) == 0) = false := by
          have := List.length_pos_iff.2 ha0
          simp; exact ha0
        have HA := Lib.hid ha0
        clear ha0
        by_cases hx : 0 < x
        · have HR := Lib.hid (put_step HE.out (.inr hx))
          have hxi : (0 : Int) < (x : Int) := by omega
          go_wp2_with (first
            | (at_builtin
               refine wpList_app1 _ slI rfl (.tmp 25) (.tmp 29) rfl wc.heap.size A acc.length c (nv acc) rfl hown _ rfl rfl (by omega) hsz hb (Nat.le_refl _) ?_
               intro A1 c1 w1 hown1 _ hb1))
          go_roundw
          case rel => exact ⟨x / 128, _, A1, c1, by go_num, by simp, nv_own hown1, hb1, by omega, .inr HR.out⟩
          case measure => exact putM_step x acc _ _ _ _ (.inr hx)
        · have hxi : ¬ (0 : Int) < (x : Int) := by omega
          have hg : acc = grp (zig n) := put_done HE.out HA.out hx
          obtain ⟨hlen, hgr⟩ := grp_num (zig n) (zig_lt n H1.out H2.out)
          rw [← hg] at hlen hgr
          have HL := Lib.hid hlen
          have HG := Lib.hid hgr
          have hpos : 0 < acc.length := List.length_pos_iff.2 HA.out
          have hll : (enc (zig n)).length = acc.length := hlen
          clear hg hlen hgr
          obtain ⟨b, o, rfl, hbB, hcells⟩ := (Rd.of_own hown).2 hpos
          have HC := Lib.hid hcells
          clear hcells hown
          go_wp2_with fail
          obtain ⟨w1, rfl⟩ : ∃ w1 : World, w1 = wr := ⟨_, rfl⟩
          have HLL := Lib.hid hll
          clear hll hal
          have hal2 : acc.length ≤ 10 := by rw [← HLL.out]; exact hl
          go_loopw [5, 6] (fun v k wr => PutRel2 wc w1 (zig n) v k wr) (fun _ k _ => acc.length - (intOf k).toNat)
          case atStart => exact ⟨0, none, 0, rfl, Nat.zero_le _, rfl, World.ownsRow_nil _ _ _ _, Below.refl _ _, hb⟩
          case round =>
            obtain ⟨i, A2, c2, rfl, hi, rfl, hown2, hb2, hb3⟩ := hrel
            rw [HLL.out] at hi
            have hsz2 := hb2.size
            by_cases hlt : i < acc.length
            · have hgi : acc[i]? = some acc[i] := List.getElem?_eq_getElem hlt
              obtain ⟨hg128, henc⟩ := HG.out i _ hgi
              have hcell : wr.cell? ⟨b, o + i, none⟩ = some (.int .i64 (acc[i] : Int)) := (hb2.cell (by exact hbB)).trans (HC.out i _ (by simp [nv, hgi]))
              have HN := Lib.hid henc
              generalize acc[i] = g at *
              clear henc hgi
              by_cases hlast : i + 1 < acc.length
              · have hli : (i : Int) + 1 < (acc.length : Int) := by omega
                go_wp2_with (first
                  | (at_builtin
                     refine wpList_app1 _ slB rfl (.tmp 44) (.tmp 51) rfl w1.heap.size A2 i c2 _ rfl hown2 _ rfl rfl (by omega) hsz2 hb3 (by omega) ?_
                     intro A3 c3 w3 hown3 hb4 hb5))
                go_roundw
                case rel => exact ⟨i + 1, A3, c3, by go_num, by rw [HLL.out]; omega, rfl, own_take hown3 (by rw [HN.out, if_pos hlast]) (byte_lt (g + 128) (by omega)), hb2.trans hb4, hb5⟩
                case measure => simp [intOf]; omega
              · have hli : ¬ (i : Int) + 1 < (acc.length : Int) := by omega
                go_wp2_with (first
                  | (at_builtin
                     refine wpList_app1 _ slB rfl (.tmp 53) (.tmp 59) rfl w1.heap.size A2 i c2 _ rfl hown2 _ rfl rfl (by omega) hsz2 hb3 (by omega) ?_
                     intro A3 c3 w3 hown3 hb4 hb5))
                go_roundw
                case rel => exact ⟨i + 1, A3, c3, by go_num, by rw [HLL.out]; omega, rfl, own_take hown3 (by rw [HN.out, if_neg hlast]) (byte_lt g (by omega)), hb2.trans hb4, hb5⟩
                case measure => simp [intOf]; omega
            · go_wp2_with fail
              go_ret
              exact made_of hown2 (by have := HLL.out; unfold num; omega) hsz hb3
end Go.Proofs.Ytolognhjdmkohaa
namespace Go.Proofs.Ytolognhjdmkohaa
open Go.RowKit
set_option linter.unusedVariables false
set_option linter.unusedSimpArgs false

/-- what a reader of a number answers -/
def NumEnd (w : World) (r : Int × Int × Int × Int) (e : Ending) (w' : World) : Prop :=
  e = .returned (.tuple #[.int .i64 r.1, .int .i64 r.2.1, .agg #[.int .i64 r.2.2.1, .int .i64 r.2.2.2]]) ∧ Below w.heap.size w w'

def ReadRel (l : List UInt8) (u i : Value) : Prop :=
  ∃ x k : Nat, u = .int .u64 (x : Int) ∧ i = .int .i64 (k : Int) ∧ k ≤ 9 ∧ k ≤ l.length ∧ x < 128 ^ k ∧ dec l = comb x k (decF k (l.drop k))

theorem read_inl {w w' : World} {bs : List UInt8} {k : Nat} {e : Nat} (hr : readNum bs k = (match dec (bs.drop k) with | .inl e => (0, 0, (e : Int), (k : Int)) | .inr p => (zag p.1, (k : Int) + (p.2 : Int), 0, 0)))
    (hd : dec (bs.drop k) = .inl e) (hb : Below w.heap.size w w') : NumEnd w (readNum bs k) (.returned (.tuple #[.int .i64 0, .int .i64 0, .agg #[.int .i64 (e : Int), .int .i64 k]])) w' := by
  rw [hr, hd]; exact ⟨rfl, hb⟩
theorem read_inr {w w' : World} {bs : List UInt8} {k : Nat} {y j : Nat} {m : Int} (hr : readNum bs k = (match dec (bs.drop k) with | .inl e => (0, 0, (e : Int), (k : Int)) | .inr p => (zag p.1, (k : Int) + (p.2 : Int), 0, 0)))
    (hd : dec (bs.drop k) = .inr (y, j)) (hm : m = (k : Int) + (j : Int)) (hb : Below w.heap.size w w') : NumEnd w (readNum bs k) (.returned (.tuple #[.int .i64 (zag y), .int .i64 m, .agg #[.int .i64 0, .int .i64 0]])) w' := by
  subst hm; rw [hr, hd]; exact ⟨rfl, hb⟩
theorem read_trunc {bs : List UInt8} {k i x : Nat} {r : Sum Nat (Nat × Nat)} (hd : r = comb x i (decF i ((bs.drop k).drop i))) (h : k + i = bs.length) : r = .inl 15 := by
  rw [hd, List.drop_drop, List.drop_of_length_le (by omega)]; rfl
theorem read_cons {bs : List UInt8} {k i : Nat} (h : k + i < bs.length) : (bs.drop k).drop i = bs[k + i] :: (bs.drop k).drop (i + 1) := by
  rw [List.drop_drop, List.drop_eq_getElem_cons h, List.drop_drop, Nat.add_assoc]
theorem read_lt (x i c : Nat) (hx : x < 128 ^ i) : x + 128 ^ i * (c % 128) < 128 ^ (i + 1) := by
  rw [Nat.pow_succ]
  generalize 128 ^ i = q at *
  have : q * (c % 128) ≤ q * 127 := Nat.mul_le_mul_left _ (by omega)
  omega
def synB (i c : Nat) : Bool := decide ((i = 9 ∧ 1 < c) ∨ (0 < i ∧ c = 0))
theorem synB_yes {i c : Nat} (h : (i = 9 ∧ 1 < c) ∨ (0 < i ∧ c = 0)) : synB i c = true := decide_eq_true h
theorem synB_no {i c : Nat} (h : ¬ ((i = 9 ∧ 1 < c) ∨ (0 < i ∧ c = 0))) : synB i c = false := decide_eq_false h

set_option maxRecDepth 100000 in
set_option maxHeartbeats 400000 in
theorem readNumber_calls {w : World} {A : Option Addr} {n c : Nat} {bs : List UInt8} (h : Rd w w.heap.size 1 A n (bv bs)) (at_ : Int) (hn : n ≤ maxLen) :
    Calls Try.prog 81 #[.slice A n c, .int .i64 at_] w (NumEnd w (readNum bs at_)) := by
  unfold maxLen at hn
  have hnl : bs.length = n := by have := h.len; rw [bv_len] at this; exact this
  by_cases h0 : at_ < 0
  · have HR := Lib.hid (show readNum bs at_ = (0, 0, 4, -2) by unfold readNum; rw [if_pos (.inl h0)])
    clear hnl
    go_enter Try.func81, Try.ntmps81
    go_wp2_with (go_at_call 91; refine (fault_calls _ _ _).mono ?_; rintro e w' ⟨rfl, rfl⟩)
    rw [HR.out]
    refine bodyPost_ret (v := .tuple #[.int .i64 0, .int .i64 0, .agg #[.int .i64 4, .int .i64 (-2)]]) (by simp [results, Try.results81, go_sem]) rfl ⟨rfl, ?_⟩
    exact ((Below.refl _ _).alloc (Nat.le_refl _) _).alloc (by simp) _
  · by_cases h1 : (n : Int) < at_
    · have HR := Lib.hid (show readNum bs at_ = (0, 0, 4, -2) by unfold readNum; rw [if_pos (.inr (by omega))])
      clear hnl
      go_enter Try.func81, Try.ntmps81
      go_wp2_with (go_at_call 91; refine (fault_calls _ _ _).mono ?_; rintro e w' ⟨rfl, rfl⟩)
      rw [HR.out]
      refine bodyPost_ret (v := .tuple #[.int .i64 0, .int .i64 0, .agg #[.int .i64 4, .int .i64 (-2)]]) (by simp [results, Try.results81, go_sem]) rfl ⟨rfl, ?_⟩
      exact ((Below.refl _ _).alloc (Nat.le_refl _) _).alloc (by simp) _
    · obtain ⟨k, rfl⟩ := Int.eq_ofNat_of_zero_le (show 0 ≤ at_ by omega)
      have hk : k ≤ n := by omega
      have HR := Lib.hid (show readNum bs k = (match dec (bs.drop k) with | .inl e => (0, 0, (e : Int), (k : Int)) | .inr p => (zag p.1, (k : Int) + (p.2 : Int), 0, 0)) by
        unfold readNum; rw [if_neg (by omega)]; rfl)
      have HNL := Lib.hid hnl
      have d1 : decide ((k : Int) < 0) = false := decide_eq_false (by omega)
      have d2 : decide (n < k) = false := decide_eq_false (by omega)
      clear hnl h0 h1
      go_enter Try.func81, Try.ntmps81
      go_wp2_with fail
      go_loop [7, 19] (fun u i => ReadRel (bs.drop k) u i) (fun _ i => 10 - (intOf i).toNat)
      case atStart => exact ⟨0, 0, rfl, rfl, by omega, by simp, by simp, by simp [comb_zero, dec]⟩
      case round =>
        obtain ⟨x, i, rfl, rfl, hi9, hil, hx, hd⟩ := hrel
        have hil2 : k + i ≤ n := by rw [List.length_drop, HNL.out] at hil; omega
        have HD := Lib.hid hd
        have HI := Lib.hid hil
        clear hd hil
        by_cases hend : k + i = n
        · have hee : ((k : Int) + (i : Int) == (n : Int)) = true := by simp; omega
          have HH := Lib.hid hend
          clear hend
          go_wp2_with (go_at_call 91; refine (fault_calls _ _ _).mono ?_; rintro e w' ⟨rfl, rfl⟩)
          refine bodyPost_ret (v := .tuple #[.int .i64 0, .int .i64 0, .agg #[.int .i64 15, .int .i64 k]]) (by simp [results, Try.results81, go_sem]) rfl ?_
          exact read_inl HR.out (read_trunc HD.out (by rw [HNL.out]; exact HH.out)) (((Below.refl _ _).alloc (Nat.le_refl _) _).alloc (by simp) _)
        · have hlt : k + i < n := by omega
          have hee : ((k : Int) + (i : Int) == (n : Int)) = false := by simp; omega
          obtain ⟨b, o, u, rfl, hbB, hu, hcell⟩ := h.at_ hlt
          have hci : k + i < bs.length := by rw [HNL.out]; exact hlt
          obtain rfl : u = .int .u8 ((bs[k + i].toNat : Nat) : Int) := by simpa [bv, List.getElem?_eq_getElem hci] using hu.symm
          have HB := Lib.hid (read_cons (bs := bs) (k := k) (i := i) hci)
          have hc256 : (bs[k + i].toNat : Int) < 256 := by have := UInt8.toNat_lt bs[k + i]; omega
          clear hu h
          generalize bs[k + i] = cb at *
          go_upto_region 10 with (fail)
          go_cut [49] (fun t wx => t = .bool (synB i cb.toNat) ∧ wx = (w.alloc (Obj.cells #[Value.int IntKind.i64 0, Value.int IntKind.i64 0] 29)))
          case first =>
            by_cases g1 : i = 9
            · have g1' : ((i : Int) == 9) = true := by rw [g1]; rfl
              by_cases g2 : 1 < cb.toNat
              · have g2' : (1 : Int) < (cb.toNat : Int) := by omega
                have HS := Lib.hid (synB_yes (i := i) (c := cb.toNat) (.inl ⟨g1, g2⟩))
                clear g1
                go_wp2_with fail
                go_meet
                exact ⟨by rw [HS.out], rfl⟩
              · have g2' : ¬ (1 : Int) < (cb.toNat : Int) := by omega
                have g3 : (0 : Int) < (i : Int) := by omega
                by_cases g4 : cb.toNat = 0
                · have g4' : ((cb.toNat : Int) == 0) = true := by rw [g4]; rfl
                  have HS := Lib.hid (synB_yes (i := i) (c := cb.toNat) (.inr ⟨by omega, g4⟩))
                  clear g1 g4
                  go_wp2_with fail
                  go_meet
                  exact ⟨by rw [HS.out], rfl⟩
                · have g4' : ((cb.toNat : Int) == 0) = false := by simp; omega
                  have HS := Lib.hid (synB_no (i := i) (c := cb.toNat) (by omega))
                  clear g1 g4
                  go_wp2_with fail
                  go_meet
                  exact ⟨by rw [HS.out], rfl⟩
            · have g1' : ((i : Int) == 9) = false := by simp; omega
              by_cases g3 : 0 < i
              · have g3' : (0 : Int) < (i : Int) := by omega
                by_cases g4 : cb.toNat = 0
                · have g4' : ((cb.toNat : Int) == 0) = true := by rw [g4]; rfl
                  have HS := Lib.hid (synB_yes (i := i) (c := cb.toNat) (.inr ⟨by omega, g4⟩))
                  clear g1 g4
                  go_wp2_with fail
                  go_meet
                  exact ⟨by rw [HS.out], rfl⟩
                · have g4' : ((cb.toNat : Int) == 0) = false := by simp; omega
                  have HS := Lib.hid (synB_no (i := i) (c := cb.toNat) (by omega))
                  clear g1 g4
                  go_wp2_with fail
                  go_meet
                  exact ⟨by rw [HS.out], rfl⟩
              · have g3' : ¬ (0 : Int) < (i : Int) := by omega
                have HS := Lib.hid (synB_no (i := i) (c := cb.toNat) (by omega))
                clear g1
                go_wp2_with fail
                go_meet
                exact ⟨by rw [HS.out], rfl⟩
          case rest =>
            obtain ⟨rfl, rfl⟩ := hcut
            by_cases hs : (i = 9 ∧ 1 < cb.toNat) ∨ (0 < i ∧ cb.toNat = 0)
            · have HS := Lib.hid hs
              rw [synB_yes hs]
              clear hs
              go_wp2_with (go_at_call 91; refine (fault_calls _ _ _).mono ?_; rintro e w' ⟨rfl, rfl⟩)
              refine bodyPost_ret (v := .tuple #[.int .i64 0, .int .i64 0, .agg #[.int .i64 1, .int .i64 k]]) (by simp [results, Try.results81, go_sem]) rfl ?_
              exact read_inl HR.out (by rw [HD.out, HB.out, comb_syn _ _ _ _ HS.out]) (((Below.refl _ _).alloc (Nat.le_refl _) _).alloc (by simp) _)
            · have HS := Lib.hid hs
              rw [synB_no hs]
              clear hs
              go_upto_region 11 with (fail)
              go_cut [7] (fun u wx => u = .int .u64 ((x + 128 ^ i * (cb.toNat % 128) : Nat) : Int) ∧ wx = (w.alloc (Obj.cells #[Value.int IntKind.i64 0, Value.int IntKind.i64 0] 29)))
              case first =>
                go_wp2_with fail
                go_meet
                exact ⟨by rw [or_shl x i cb.toNat hx hi9 (by omega) (by have := HS.out; omega)], rfl⟩
              case rest =>
                obtain ⟨rfl, rfl⟩ := hcut
                by_cases hc : cb.toNat < 128
                · have HV := Lib.hid (show dec (bs.drop k) = .inr (x + 128 ^ i * (cb.toNat % 128), i + 1) by
                    rw [HD.out, HB.out, comb_end _ _ _ _ HS.out hc, Nat.mod_eq_of_lt hc])
                  have hv := (dec_inv HV.out).2.2.2
                  generalize x + 128 ^ i * (cb.toNat % 128) = y at *
                  have hc' : (cb.toNat : Int) < 128 := by omega
                  have HY := Lib.hid hv
                  clear hv
                  go_wp2_with fail
                  rw [zag_bits y HY.out]
                  refine bodyPost_ret (v := .tuple #[.int .i64 (zag y), .int .i64 ((k : Int) + (i : Int) + 1), .agg #[.int .i64 0, .int .i64 0]]) (by simp [results, Try.results81, go_sem]) rfl ?_
                  exact read_inr HR.out HV.out (by omega) ((Below.refl _ _).alloc (Nat.le_refl _) _)
                · have hc' : ¬ (cb.toNat : Int) < 128 := by omega
                  have HN := Lib.hid (show dec (bs.drop k) = comb (x + 128 ^ i * (cb.toNat % 128)) (i + 1) (decF (i + 1) ((bs.drop k).drop (i + 1))) by
                    rw [HD.out, HB.out, comb_next _ _ _ _ HS.out hc, show cb.toNat % 128 = cb.toNat - 128 by omega])
                  have hy := read_lt x i cb.toNat hx
                  have hi8 : i < 9 := by have := HS.out; omega
                  generalize x + 128 ^ i * (cb.toNat % 128) = y at *
                  go_wp2_with fail
                  go_round
                  case rel => exact ⟨y, i + 1, rfl, by go_num, by omega, by rw [List.length_drop, HNL.out]; omega, hy, HN.out⟩
                  case measure => simp [intOf]; omega
end Go.Proofs.Ytolognhjdmkohaa
