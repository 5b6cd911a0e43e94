import Derived.Test.YtpkfadgennejnaaEngP
import Derived.KernelRfl
import Derived.Laws.BitsAllLaws
namespace Go.Eng
open Go
set_option linter.unusedVariables false
set_option linter.unusedSimpArgs false

theorem and_u8 (i : Nat) (hi : i ≤ 8) (m d : Int) (hm : m = 2 ^ i - 1) (hd : d = 2 ^ i) (x : Int) (h0 : 0 ≤ x) (h1 : x ≤ 255) : bits .and .u8 x m = x % d := by
  subst hm; subst hd
  exact bits_mask .u8 8 (by decide) (fun n a b => by rw [IntKind.wrap_u8]; omega) i hi x h0 (by omega)
theorem and_u32 (i : Nat) (hi : i ≤ 32) (m d : Int) (hm : m = 2 ^ i - 1) (hd : d = 2 ^ i) (x : Int) (h0 : 0 ≤ x) (h1 : x ≤ 4294967295) : bits .and .u32 x m = x % d := by
  subst hm; subst hd
  exact bits_mask .u32 32 (by decide) (fun n a b => by rw [IntKind.wrap_u32]; omega) i hi x h0 (by omega)
theorem and_u64 (i : Nat) (hi : i ≤ 64) (m d : Int) (hm : m = 2 ^ i - 1) (hd : d = 2 ^ i) (x : Int) (h0 : 0 ≤ x) (h1 : x ≤ 18446744073709551615) : bits .and .u64 x m = x % d := by
  subst hm; subst hd
  exact bits_mask .u64 64 (by decide) (fun n a b => by rw [IntKind.wrap_u64]; omega) i hi x h0 (by omega)
theorem and_i64 (i : Nat) (hi : i ≤ 63) (m d : Int) (hm : m = 2 ^ i - 1) (hd : d = 2 ^ i) (x : Int) (h0 : 0 ≤ x) (h1 : x ≤ 9223372036854775807) : bits .and .i64 x m = x % d := by
  subst hm; subst hd
  exact bits_mask .i64 63 (by decide) (fun n a b => by rw [IntKind.wrap_i64]; omega) i hi x h0 (by omega)

theorem xor_u32 (x y : Int) (h0 : 0 ≤ x) (h1 : x ≤ 4294967295) (g0 : 0 ≤ y) (g1 : y ≤ 4294967295) : bits .xor .u32 x y = ((x.toNat ^^^ y.toNat : Nat) : Int) := by
  obtain ⟨a, rfl⟩ := Int.eq_ofNat_of_zero_le h0
  obtain ⟨b, rfl⟩ := Int.eq_ofNat_of_zero_le g0
  rw [u32_xor_nat a b (by omega) (by omega)]; simp
theorem xor_u64 (x y : Int) (h0 : 0 ≤ x) (h1 : x ≤ 18446744073709551615) (g0 : 0 ≤ y) (g1 : y ≤ 18446744073709551615) : bits .xor .u64 x y = ((x.toNat ^^^ y.toNat : Nat) : Int) := by
  obtain ⟨a, rfl⟩ := Int.eq_ofNat_of_zero_le h0
  obtain ⟨b, rfl⟩ := Int.eq_ofNat_of_zero_le g0
  rw [u64_xor_nat a b (by omega) (by omega)]; simp
theorem xor_u8 (x y : Int) (h0 : 0 ≤ x) (h1 : x ≤ 255) (g0 : 0 ≤ y) (g1 : y ≤ 255) : bits .xor .u8 x y = ((x.toNat ^^^ y.toNat : Nat) : Int) := by
  obtain ⟨a, rfl⟩ := Int.eq_ofNat_of_zero_le h0
  obtain ⟨b, rfl⟩ := Int.eq_ofNat_of_zero_le g0
  rw [u8_xor_nat a b (by omega) (by omega)]; simp
def eqB (xs ys : List UInt8) : Bool := xs == ys
theorem wrI64 {n : Int} (h : -9223372036854775808 ≤ n ∧ n ≤ 9223372036854775807) : IntKind.i64.wrap n = n := by rw [IntKind.wrap_i64]; omega
theorem wrU64 {n : Int} (h : 0 ≤ n ∧ n ≤ 18446744073709551615) : IntKind.u64.wrap n = n := by rw [IntKind.wrap_u64]; omega
theorem wrU32 {n : Int} (h : 0 ≤ n ∧ n ≤ 4294967295) : IntKind.u32.wrap n = n := by rw [IntKind.wrap_u32]; omega
theorem wrU8 {n : Int} (h : 0 ≤ n ∧ n ≤ 255) : IntKind.u8.wrap n = n := by rw [IntKind.wrap_u8]; omega
end Go.Eng
