/-
  The contract of the reference's Put: it writes the encoding that wire.Number writes.
-/
import Derived.Test.YtdandbhjmckmiaaWireNum
import Derived.Deep.DeepCutAuto
namespace Go.Proofs.Ytdandbhjmckmiaa
open Go.RowKit
set_option linter.unusedVariables false
set_option linter.unusedSimpArgs false

theorem slI : SlT Try.prog 37 3 1 8 := SlT.mk' Try.underlying37 (z := .int .i64 0) (by kernel_rfl) rfl (by decide) (by decide)
/-- numbers as cells -/
def iv (l : List Int) : List Value := l.map (Value.int .i64)
theorem iv_len (l : List Int) : (iv l).length = l.length := by simp [iv]
theorem iv_app (a b : List Int) : iv (a ++ b) = iv a ++ iv b := by simp [iv]
theorem iv_one (l : List Int) : ∀ u ∈ iv l, u.oneCell' = true := by
  intro u hu
  simp only [iv, List.mem_map] at hu
  obtain ⟨b, _, rfl⟩ := hu
  rfl
/-- small numbers as cells -/
def nv (l : List Nat) : List Value := l.map fun (g : Nat) => Value.int .i64 (g : Int)
theorem nv_snoc (l : List Nat) (g : Nat) : nv (l ++ [g]) = nv l ++ [.int .i64 (g : Int)] := by simp [nv]

def PutRel (w : World) (m : Nat) (u v : Value) (wr : World) : Prop :=
  ∃ (x : Nat) (acc : List Nat) (A : Option Addr) (c : Nat), u = .int .u64 (x : Int) ∧ v = .slice A acc.length c ∧ wr.ownsRow w.heap.size 3 1 (.slice A acc.length c) acc.length (nv acc) ∧ Below w.heap.size w wr ∧ (x : Int) < 18446744073709551616 ∧
    ((acc = [] ∧ x = m) ∨ (acc ≠ [] ∧ acc ++ grpR x = grp m))
def PutRel2 (w w1 : World) (m : Nat) (v k : Value) (wr : World) : Prop :=
  ∃ (i : Nat) (A : Option Addr) (c : Nat), k = .int .i64 (i : Int) ∧ i ≤ (enc m).length ∧ v = .slice A i c ∧ wr.ownsRow w1.heap.size 5 1 (.slice A i c) i (bv ((enc m).take i)) ∧ Below w1.heap.size w1 wr ∧ Below w.heap.size w wr

theorem val_zig (n u : Int) (h : u = ((zig n : Nat) : Int)) (w : World) : Value.int .u64 u = .int .u64 ((zig n : Nat) : Int) ∧ w = w := ⟨by rw [h], rfl⟩
def putM (u v : Value) : Nat := match v with | .slice _ 0 _ => (intOf u).toNat + 1 | _ => (intOf u).toNat
theorem putM_step (x : Nat) (acc : List Nat) (A A' : Option Addr) (c c' : Nat) (h : acc = [] ∨ 0 < x) : putM (.int .u64 ((x : Int) / 128)) (.slice A' (acc.length + 1) c') < putM (.int .u64 (x : Int)) (.slice A acc.length c) := by
  have e1 : putM (.int .u64 ((x : Int) / 128)) (.slice A' (acc.length + 1) c') = x / 128 := by simp [putM, intOf]; omega
  rw [e1]
  rcases acc with _ | ⟨g, acc⟩
  · simp [putM, intOf]; omega
  · simp [putM, intOf]
    rcases h with h | h
    · cases h
    · omega
theorem put_step {x m : Nat} {acc : List Nat} (h : (acc = [] ∧ x = m) ∨ (acc ≠ [] ∧ acc ++ grpR x = grp m)) (hx : acc = [] ∨ 0 < x) : acc ++ [x % 128] ≠ [] ∧ (acc ++ [x % 128]) ++ grpR (x / 128) = grp m := by
  refine ⟨by simp, ?_⟩
  rcases h with ⟨rfl, rfl⟩ | ⟨h1, h2⟩
  · simp [grp]
  · rcases hx with hx | hx
    · exact absurd hx h1
    · rw [← h2, grpR_pos hx]; simp
theorem put_len {n : Int} {x : Nat} {acc : List Nat} (h1 : -9223372036854775808 ≤ n) (h2 : n ≤ 9223372036854775807) (h : (acc = [] ∧ x = zig n) ∨ (acc ≠ [] ∧ acc ++ grpR x = grp (zig n))) : acc.length ≤ 10 := by
  have hg := (grp_num (zig n) (zig_lt n h1 h2)).1
  have hl := num_len n h1 h2
  unfold num at hl
  rcases h with ⟨rfl, _⟩ | ⟨_, h⟩
  · simp
  · rw [hg, ← h, List.length_append] at hl; omega
theorem put_done {x m : Nat} {acc : List Nat} (h : (acc = [] ∧ x = m) ∨ (acc ≠ [] ∧ acc ++ grpR x = grp m)) (ha : acc ≠ []) (hx : ¬ 0 < x) : acc = grp m := by
  rcases h with ⟨h, _⟩ | ⟨_, h⟩
  · exact absurd h ha
  · obtain rfl : x = 0 := by omega
    rw [grpR_zero, List.append_nil] at h; exact h
theorem own_take {w : World} {base : Nat} {A : Option Addr} {c i : Nat} {m : List UInt8} {b : UInt8} {v : Int} (h : w.ownsRow base 5 1 (.slice A (i + 1) c) (i + 1) (bv (m.take i) ++ [.int .u8 v]))
    (hb : m[i]? = some b) (hv : v = (b.toNat : Int)) : w.ownsRow base 5 1 (.slice A (i + 1) c) (i + 1) (bv (m.take (i + 1))) := by
  subst hv
  have hi : i < m.length := (List.getElem?_eq_some_iff.1 hb).1
  have e : m.take (i + 1) = m.take i ++ [b] := by
    rw [List.take_succ_eq_append_getElem hi]
    rw [List.getElem?_eq_getElem hi] at hb
    injection hb with hb
    rw [hb]
  rw [e, bv_app]
  exact h
theorem made_of {w0 w : World} {A : Option Addr} {c i base : Nat} {m : List UInt8} (h : w.ownsRow base 5 1 (.slice A i c) i (bv (m.take i))) (hi : i = m.length) (hB : w0.heap.size ≤ base) (hb : Below w0.heap.size w0 w) :
    Made w0 m (.returned (.slice A i c)) w := by
  subst hi
  rw [List.take_length] at h
  exact ⟨A, c, rfl, own_mono h hB, hb⟩
theorem nv_own {w : World} {base : Nat} {A : Option Addr} {c : Nat} {acc : List Nat} {x : Nat} (h : w.ownsRow base 3 1 (.slice A (acc.length + 1) c) (acc.length + 1) (nv acc ++ [.int .i64 ((x : Int) % 128)])) :
    w.ownsRow base 3 1 (.slice A (acc ++ [x % 128]).length c) (acc ++ [x % 128]).length (nv (acc ++ [x % 128])) := by
  rw [nv_snoc, List.length_append]
  exact h

set_option maxRecDepth 100000 in
set_option maxHeartbeats 400000 in
theorem put_calls (n : Int) (w : World) (h1 : -9223372036854775808 ≤ n) (h2 : n ≤ 9223372036854775807) :
    Calls Try.prog 17 #[.int .i64 n] w (Made w (num n)) := by
  have hl := num_len n h1 h2
  go_enter Try.func17, Try.ntmps17
  go_upto_if 8 with (fail)
  go_cut [3] (fun u wx => u = .int .u64 ((zig n : Nat) : Int) ∧ wx = w)
  case first =>
    by_cases hn : 0 ≤ n
    · go_wp2_with fail
      go_meet
      exact val_zig n _ (by unfold zig; rw [if_pos hn]; omega) _
    · go_wp2_with fail
      go_meet
      exact val_zig n _ (by unfold zig; rw [if_neg (by omega)]; omega) _
  case rest =>
    obtain ⟨rfl, rfl⟩ := hcut
    have H1 := Lib.hid h1
    have H2 := Lib.hid h2
    clear h1 h2
    go_wp2_with fail
    go_loopw [3, 4] (fun u v wr => PutRel wc (zig n) u v wr) (fun u v _ => putM u v)
    case atStart => exact ⟨zig n, [], none, 0, rfl, rfl, World.ownsRow_nil _ _ _ _, Below.refl _ _, by have := zig_lt n H1.out H2.out; omega, .inl ⟨rfl, rfl⟩⟩
    case round =>
      obtain ⟨x, acc, A, c, rfl, rfl, hown, hb, hx64, he⟩ := hrel
      have hsz := hb.size
      have hal := put_len H1.out H2.out he
      have HE := Lib.hid he
      clear he
      by_cases ha0 : acc = []
      · have HR := Lib.hid (put_step HE.out (.inl ha0))
        have HA := Lib.hid ha0
        have ha : ((acc.length : Int) == 0) = true := by rw [ha0]; rfl
        clear ha0
        go_wp2_with (first
          | (at_builtin
             refine wpList_app1 _ slI rfl (.tmp 25) (.tmp 29) rfl wc.heap.size A acc.length c (nv acc) rfl hown _ rfl rfl (by omega) hsz hb (Nat.le_refl _) ?_
             intro A1 c1 w1 hown1 _ hb1))
        go_roundw
        case rel => exact ⟨x / 128, _, A1, c1, by go_num, by simp, nv_own hown1, hb1, by omega, .inr HR.out⟩
        case measure => exact putM_step x acc _ _ _ _ (.inl HA.out)
      · have ha : ((acc.length : Int) == 0) = false := by
          have := List.length_pos_iff.2 ha0
          simp; exact ha0
        have HA := Lib.hid ha0
        clear ha0
        by_cases hx : 0 < x
        · have HR := Lib.hid (put_step HE.out (.inr hx))
          have hxi : (0 : Int) < (x : Int) := by omega
          go_wp2_with (first
            | (at_builtin
               refine wpList_app1 _ slI rfl (.tmp 25) (.tmp 29) rfl wc.heap.size A acc.length c (nv acc) rfl hown _ rfl rfl (by omega) hsz hb (Nat.le_refl _) ?_
               intro A1 c1 w1 hown1 _ hb1))
          go_roundw
          case rel => exact ⟨x / 128, _, A1, c1, by go_num, by simp, nv_own hown1, hb1, by omega, .inr HR.out⟩
          case measure => exact putM_step x acc _ _ _ _ (.inr hx)
        · have hxi : ¬ (0 : Int) < (x : Int) := by omega
          have hg : acc = grp (zig n) := put_done HE.out HA.out hx
          obtain ⟨hlen, hgr⟩ := grp_num (zig n) (zig_lt n H1.out H2.out)
          rw [← hg] at hlen hgr
          have HL := Lib.hid hlen
          have HG := Lib.hid hgr
          have hpos : 0 < acc.length := List.length_pos_iff.2 HA.out
          have hll : (enc (zig n)).length = acc.length := hlen
          clear hg hlen hgr
          obtain ⟨b, o, rfl, hbB, hcells⟩ := (Rd.of_own hown).2 hpos
          have HC := Lib.hid hcells
          clear hcells hown
          go_wp2_with fail
          obtain ⟨w1, rfl⟩ : ∃ w1 : World, w1 = wr := ⟨_, rfl⟩
          have HLL := Lib.hid hll
          clear hll hal
          have hal2 : acc.length ≤ 10 := by rw [← HLL.out]; exact hl
          go_loopw [5, 6] (fun v k wr => PutRel2 wc w1 (zig n) v k wr) (fun _ k _ => acc.length - (intOf k).toNat)
          case atStart => exact ⟨0, none, 0, rfl, Nat.zero_le _, rfl, World.ownsRow_nil _ _ _ _, Below.refl _ _, hb⟩
          case round =>
            obtain ⟨i, A2, c2, rfl, hi, rfl, hown2, hb2, hb3⟩ := hrel
            rw [HLL.out] at hi
            have hsz2 := hb2.size
            by_cases hlt : i < acc.length
            · have hgi : acc[i]? = some acc[i] := List.getElem?_eq_getElem hlt
              obtain ⟨hg128, henc⟩ := HG.out i _ hgi
              have hcell : wr.cell? ⟨b, o + i, none⟩ = some (.int .i64 (acc[i] : Int)) := (hb2.cell (by exact hbB)).trans (HC.out i _ (by simp [nv, hgi]))
              have HN := Lib.hid henc
              generalize acc[i] = g at *
              clear henc hgi
              by_cases hlast : i + 1 < acc.length
              · have hli : (i : Int) + 1 < (acc.length : Int) := by omega
                go_wp2_with (first
                  | (at_builtin
                     refine wpList_app1 _ slB rfl (.tmp 44) (.tmp 51) rfl w1.heap.size A2 i c2 _ rfl hown2 _ rfl rfl (by omega) hsz2 hb3 (by omega) ?_
                     intro A3 c3 w3 hown3 hb4 hb5))
                go_roundw
                case rel => exact ⟨i + 1, A3, c3, by go_num, by rw [HLL.out]; omega, rfl, own_take hown3 (by rw [HN.out, if_pos hlast]) (byte_lt (g + 128) (by omega)), hb2.trans hb4, hb5⟩
                case measure => simp [intOf]; omega
              · have hli : ¬ (i : Int) + 1 < (acc.length : Int) := by omega
                go_wp2_with (first
                  | (at_builtin
                     refine wpList_app1 _ slB rfl (.tmp 53) (.tmp 59) rfl w1.heap.size A2 i c2 _ rfl hown2 _ rfl rfl (by omega) hsz2 hb3 (by omega) ?_
                     intro A3 c3 w3 hown3 hb4 hb5))
                go_roundw
                case rel => exact ⟨i + 1, A3, c3, by go_num, by rw [HLL.out]; omega, rfl, own_take hown3 (by rw [HN.out, if_neg hlast]) (byte_lt g (by omega)), hb2.trans hb4, hb5⟩
                case measure => simp [intOf]; omega
            · go_wp2_with fail
              go_ret
              exact made_of hown2 (by have := HLL.out; unfold num; omega) hsz hb3
end Go.Proofs.Ytdandbhjmckmiaa
