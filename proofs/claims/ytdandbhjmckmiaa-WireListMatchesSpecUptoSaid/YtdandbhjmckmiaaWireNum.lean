/-
  The contract of wire.Number and of the reference's Put.
-/
import Derived.Test.YtdandbhjmckmiaaBase
import Derived.Test.YtdandbhjmckmiaaWireMath
import Derived.Test.YtdandbhjmckmiaaWireBits
import Derived.Outline
import Derived.KernelRfl
namespace Go.Proofs.Ytdandbhjmckmiaa
open Go.RowKit
set_option linter.unusedVariables false
set_option linter.unusedSimpArgs false

def NumRel (w : World) (m : List UInt8) (u v : Value) (wr : World) : Prop :=
  ∃ (x : Nat) (acc : List UInt8) (A : Option Addr) (c : Nat), u = .int .u64 (x : Int) ∧ v = .slice A acc.length c ∧ wr.ownsRow w.heap.size 5 1 (.slice A acc.length c) acc.length (bv acc) ∧ Below w.heap.size w wr ∧ acc ++ enc x = m

theorem num_step {n : Int} {acc : List UInt8} {x : Nat} (h : acc ++ enc x = num n) (hx : ¬ x < 128) : (acc ++ [UInt8.ofNat (x % 128 + 128)]) ++ enc (x / 128) = num n := by
  rw [← h, enc_ge (by omega : 128 ≤ x)]; simp
set_option maxRecDepth 100000 in
set_option maxHeartbeats 400000 in
theorem number_calls (n : Int) (w : World) (h1 : -9223372036854775808 ≤ n) (h2 : n ≤ 9223372036854775807) :
    Calls Try.prog 16 #[.int .i64 n] w (Made w (num n)) := by
  have hl := num_len n h1 h2
  go_enter Try.func16, Try.ntmps16
  go_wp2_with fail
  rw [zig_bits n h1 h2]
  go_loopw [3, 4] (fun u v wr => NumRel w (num n) u v wr) (fun u _ _ => (intOf u).toNat)
  case atStart => exact ⟨zig n, [], none, 0, rfl, rfl, World.ownsRow_nil _ _ _ _, Below.refl _ _, rfl⟩
  case round =>
    obtain ⟨x, acc, A, c, rfl, rfl, hown, hb, he⟩ := hrel
    have HE := Lib.hid he
    have hal : acc.length + (enc x).length ≤ 10 := by
      have := congrArg List.length he
      rw [List.length_append] at this
      omega
    have hsz := hb.size
    clear he h1 h2
    by_cases hx : x < 128
    · have hxx : (x : Int) < 128 := by omega
      go_wp2_with (first
        | (at_builtin
           refine wpList_app1 _ slB rfl (.tmp 22) (.tmp 25) rfl w.heap.size A acc.length c (bv acc) rfl hown _ rfl rfl (by omega) hsz hb (Nat.le_refl _) ?_
           intro A1 c1 w1 hown1 _ hb1))
      go_ret
      have e : acc ++ [UInt8.ofNat x] = num n := by rw [← HE.out, enc_lt hx]
      rw [← e]
      exact made_snoc hown1 (byte_lt x (by omega)) hb1
    · go_wp2_with (first
        | (at_builtin
           refine wpList_app1 _ slB rfl (.tmp 16) (.tmp 20) rfl w.heap.size A acc.length c (bv acc) rfl hown _ rfl rfl (by omega) hsz hb (Nat.le_refl _) ?_
           intro A1 c1 w1 hown1 _ hb1))
      go_roundw
      case rel => exact ⟨x / 128, _, A1, c1, by go_num, by rw [← snoc_len], own_snoc hown1 (byte_or x), hb1, num_step HE.out hx⟩
      case measure => simp [intOf]; omega
end Go.Proofs.Ytdandbhjmckmiaa
