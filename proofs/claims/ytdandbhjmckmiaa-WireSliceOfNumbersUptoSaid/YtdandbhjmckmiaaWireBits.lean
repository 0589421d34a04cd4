/-
  The bit operations of the encoding of numbers, as the walk spells them.
-/
import Derived.WalkKit
import Derived.Test.YtdandbhjmckmiaaWireMath
namespace Go.Proofs.Ytdandbhjmckmiaa
set_option linter.unusedVariables false
set_option linter.unusedSimpArgs false

theorem wrap_u64 (n : Int) : IntKind.u64.wrap n = n % 18446744073709551616 := by simp [IntKind.wrap, IntKind.bits, IntKind.signed]
theorem xor_ones (x : Nat) (h : x < 18446744073709551616) : x ^^^ 18446744073709551615 = 18446744073709551615 - x := by
  have e : (BitVec.ofNat 64 x ^^^ BitVec.allOnes 64).toNat = 18446744073709551615 - x := by
    rw [BitVec.xor_allOnes, BitVec.toNat_not, BitVec.toNat_ofNat, Nat.mod_eq_of_lt (by omega)]
  rw [BitVec.toNat_xor, BitVec.toNat_ofNat, BitVec.toNat_allOnes, Nat.mod_eq_of_lt (by omega)] at e
  exact e
theorem zig_bits (n : Int) (h1 : -9223372036854775808 ≤ n) (h2 : n ≤ 9223372036854775807) :
    bits .xor .u64 (IntKind.u64.wrap (IntKind.u64.wrap n * 2)) (IntKind.u64.wrap (n / 9223372036854775808)) = ((zig n : Nat) : Int) := by
  have w1 := wrap_u64 n
  have w2 := wrap_u64 (IntKind.u64.wrap n * 2)
  have w3 := wrap_u64 (n / 9223372036854775808)
  by_cases h : 0 ≤ n
  · have e1 : IntKind.u64.wrap (IntKind.u64.wrap n * 2) = ((2 * n.toNat : Nat) : Int) := by omega
    have e2 : IntKind.u64.wrap (n / 9223372036854775808) = ((0 : Nat) : Int) := by omega
    rw [e1, e2, u64_xor_nat _ _ (by omega) (by omega), Nat.xor_zero]
    unfold zig; rw [if_pos h]
  · have e1 : IntKind.u64.wrap (IntKind.u64.wrap n * 2) = ((18446744073709551616 - 2 * (-n).toNat : Nat) : Int) := by omega
    have e2 : IntKind.u64.wrap (n / 9223372036854775808) = ((18446744073709551615 : Nat) : Int) := by omega
    rw [e1, e2, u64_xor_nat _ _ (by omega) (by omega), xor_ones _ (by omega)]
    unfold zig; rw [if_neg h]; omega
/-- 'byte(u) | 128' -/
theorem byte_or (u : Nat) : bits .or .u8 ((u : Int) % 256) 128 = (((UInt8.ofNat (u % 128 + 128)).toNat : Nat) : Int) := by
  rw [ofNat_toNat _ (by omega)]
  have e1 : (u : Int) % 256 = ((u % 256 : Nat) : Int) := by omega
  have e2 : (128 : Int) = ((128 : Nat) : Int) := rfl
  rw [e1, e2, u8_or_nat _ _ (by omega) (by omega)]
  by_cases h : u % 256 < 128
  · rw [Nat.or_comm, nat_join 7 128 (u % 256) (by decide) (by omega)]; omega
  · have e3 : u % 256 = 128 ||| (u % 128) := by rw [nat_join 7 128 (u % 128) (by decide) (by omega)]; omega
    rw [e3, Nat.or_comm, ← Nat.or_assoc, Nat.or_self, nat_join 7 128 (u % 128) (by decide) (by omega)]; omega
theorem byte_lt (u : Nat) (h : u < 256) : (u : Int) = (((UInt8.ofNat u).toNat : Nat) : Int) := by
  rw [ofNat_toNat _ (by omega)]
theorem pow_128 (i : Nat) : (128 : Nat) ^ i = 2 ^ (7 * i) := by rw [Nat.pow_mul]
/-- 'u |= uint64(c&127) << (7*i)' -/
theorem or_shl (x i c : Nat) (hx : x < 128 ^ i) (hi : i ≤ 9) (hc : c < 256) (h9 : i = 9 → c ≤ 1) :
    bits .or .u64 (x : Int) (IntKind.u64.wrap (IntKind.u64.wrap (bits .and .u8 (c : Int) 127) * 2 ^ (7 * i))) = ((x + 128 ^ i * (c % 128) : Nat) : Int) := by
  have e1 : bits .and .u8 (c : Int) 127 = ((c % 128 : Nat) : Int) := by
    rw [show (127 : Int) = ((127 : Nat) : Int) from rfl, u8_and_nat _ _ (by omega) (by omega), nat_mask7]
  have e2 : IntKind.u64.wrap ((c % 128 : Nat) : Int) = ((c % 128 : Nat) : Int) := by rw [wrap_u64]; omega
  have hcm : c % 128 < 128 := Nat.mod_lt _ (by omega)
  have hp : 128 ^ i * (c % 128) + 128 ^ i ≤ 18446744073709551616 := by
    by_cases h : i = 9
    · subst h
      have := h9 rfl
      have e : c % 128 = c := by omega
      rw [e]
      have : c = 0 ∨ c = 1 := by omega
      rcases this with rfl | rfl <;> decide
    · have h8 : (128 : Nat) ^ i ≤ 128 ^ 8 := Nat.pow_le_pow_right (by omega) (by omega)
      have e8 : (128 : Nat) ^ 8 = 72057594037927936 := by decide
      have : 128 ^ i * (c % 128) ≤ 128 ^ i * 127 := Nat.mul_le_mul_left _ (by omega)
      omega
  have e3 : IntKind.u64.wrap (((c % 128 : Nat) : Int) * 2 ^ (7 * i)) = ((128 ^ i * (c % 128) : Nat) : Int) := by
    have e : ((c % 128 : Nat) : Int) * 2 ^ (7 * i) = ((128 ^ i * (c % 128) : Nat) : Int) := by
      rw [pow_128, Int.natCast_mul, Int.natCast_pow, Int.mul_comm]; rfl
    rw [e, wrap_u64]; omega
  rw [e1, e2, e3, u64_or_nat _ _ (by omega) (by omega)]
  have e4 : x ||| 128 ^ i * (c % 128) = 128 ^ i * (c % 128) + x := by
    rw [Nat.or_comm, pow_128]
    exact nat_join (7 * i) _ _ (Nat.mul_mod_right _ _) (by rw [← pow_128]; exact hx)
  rw [e4, Nat.add_comm]
/-- 'int(u>>1) ^ -int(u&1)' -/
theorem zag_bits (x : Nat) (h : x < 18446744073709551616) :
    bits .xor .i64 (RowKit.wrap64 ((x : Int) / 2)) (RowKit.wrap64 (-RowKit.wrap64 (bits .and .u64 (x : Int) 1))) = zag x := by
  have e1 : bits .and .u64 (x : Int) 1 = ((x % 2 : Nat) : Int) := by
    rw [show (1 : Int) = ((1 : Nat) : Int) from rfl, u64_and_nat _ _ (by omega) (by omega), nat_mask1]
  rw [e1]
  have e2 : RowKit.wrap64 ((x : Int) / 2) = ((x / 2 : Nat) : Int) := by unfold RowKit.wrap64; omega
  have e3 : RowKit.wrap64 (-RowKit.wrap64 ((x % 2 : Nat) : Int)) = -((x % 2 : Nat) : Int) := by unfold RowKit.wrap64; omega
  rw [e2, e3]
  show IntKind.i64.wrap ((BitVec.ofInt 64 ((x / 2 : Nat) : Int) ^^^ BitVec.ofInt 64 (-((x % 2 : Nat) : Int))).toNat : Int) = _
  unfold zag
  by_cases hm : x % 2 = 0
  · rw [if_pos hm, hm]
    have : (BitVec.ofInt 64 (-((0 : Nat) : Int))) = 0#64 := by decide
    rw [this, BitVec.xor_zero, BitVec.ofInt_natCast, BitVec.toNat_ofNat, Nat.mod_eq_of_lt (by omega), IntKind.wrap_i64]
    omega
  · have h1 : x % 2 = 1 := by omega
    rw [if_neg hm, h1]
    have : (BitVec.ofInt 64 (-((1 : Nat) : Int))) = BitVec.allOnes 64 := by decide
    rw [this, BitVec.xor_allOnes, BitVec.toNat_not, BitVec.ofInt_natCast, BitVec.toNat_ofNat, Nat.mod_eq_of_lt (by omega), IntKind.wrap_i64]
    omega

end Go.Proofs.Ytdandbhjmckmiaa
