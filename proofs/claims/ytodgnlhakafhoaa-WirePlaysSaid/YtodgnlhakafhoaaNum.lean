/- Plain numbers: no program here. What the layer zig computes, and small laws on bits. -/
import Derived.WalkKit
import Derived.Laws.BitsAllLaws
namespace Go.Proofs.Ytodgnlhakafhoaa.Num

/-- a number with a sign as one without -/
def zig (n : Int) : Int := if 0 ≤ n then 2 * n else -2 * n - 1
/-- and back -/
def zag (u : Int) : Int := if u % 2 = 0 then u / 2 else -(u / 2) - 1

theorem zig_pos {n : Int} (h : 0 ≤ n) : zig n = 2 * n := by simp [zig, h]
theorem zig_neg {n : Int} (h : n < 0) : zig n = -2 * n - 1 := by
  unfold zig; rw [if_neg (by omega)]
theorem zag_even {u : Int} (h : u % 2 = 0) : zag u = u / 2 := by simp [zag, h]
theorem zag_odd {u : Int} (h : u % 2 = 1) : zag u = -(u / 2) - 1 := by
  unfold zag; rw [if_neg (by omega)]
theorem zig_nonneg (n : Int) : 0 ≤ zig n := by unfold zig; split <;> omega
theorem zag_zig (n : Int) : zag (zig n) = n := by unfold zag zig; split <;> split <;> omega
theorem zig_zag (u : Int) (h : 0 ≤ u) : zig (zag u) = u := by unfold zag zig; split <;> split <;> omega
theorem zig_le (n : Int) (h1 : -9223372036854775808 ≤ n) (h2 : n ≤ 9223372036854775807) : zig n ≤ 18446744073709551615 := by unfold zig; split <;> omega
theorem zig_le32 (n : Int) (h1 : -2147483648 ≤ n) (h2 : n ≤ 2147483647) : zig n ≤ 4294967295 := by unfold zig; split <;> omega
theorem zag_ge (u : Int) (h1 : 0 ≤ u) (h2 : u ≤ 18446744073709551615) : -9223372036854775808 ≤ zag u ∧ zag u ≤ 9223372036854775807 := by unfold zag; split <;> omega
theorem zag_ge32 (u : Int) (h1 : 0 ≤ u) (h2 : u ≤ 4294967295) : -2147483648 ≤ zag u ∧ zag u ≤ 2147483647 := by unfold zag; split <;> omega

theorem wrap_u64 (n : Int) : IntKind.u64.wrap n = n % 18446744073709551616 := by simp [IntKind.wrap, IntKind.bits, IntKind.signed]
theorem wrap_u32 (n : Int) : IntKind.u32.wrap n = n % 4294967296 := by simp [IntKind.wrap, IntKind.bits, IntKind.signed]

theorem xor0 (k : IntKind) (a : Int) : bits .xor k a 0 = k.wrap ((BitVec.ofInt k.bits a).toNat : Int) := by
  show k.wrap ((BitVec.ofInt k.bits a ^^^ BitVec.ofInt k.bits 0).toNat : Int) = _
  congr 2
  simp

theorem u64_xor0 (a : Int) (h1 : 0 ≤ a) (h2 : a < 18446744073709551616) : bits .xor .u64 a 0 = a := by
  obtain ⟨n, rfl⟩ := Int.eq_ofNat_of_zero_le h1
  have h := u64_xor_nat n 0 (by omega) (by omega)
  simpa using h

theorem not_nat (w a : Nat) (ha : a < 2 ^ w) : a ^^^ (2 ^ w - 1) = 2 ^ w - 1 - a := by
  have h := BitVec.toNat_not (x := BitVec.ofNat w a)
  rw [← BitVec.xor_allOnes] at h
  rw [BitVec.toNat_xor, BitVec.toNat_ofNat, BitVec.toNat_allOnes, Nat.mod_eq_of_lt ha] at h
  exact h

theorem u64_xor1 (a : Int) (h1 : 0 ≤ a) (h2 : a < 18446744073709551616) : bits .xor .u64 a 18446744073709551615 = 18446744073709551615 - a := by
  obtain ⟨n, rfl⟩ := Int.eq_ofNat_of_zero_le h1
  have h := u64_xor_nat n 18446744073709551615 (by omega) (by omega)
  have h' := not_nat 64 n (by omega)
  simp only [Nat.reducePow, Nat.reduceSub] at h'
  rw [h', show ((18446744073709551615 : Nat) : Int) = 18446744073709551615 from rfl] at h
  omega

theorem u32_xor0 (a : Int) (h1 : 0 ≤ a) (h2 : a < 4294967296) : bits .xor .u32 a 0 = a := by
  obtain ⟨n, rfl⟩ := Int.eq_ofNat_of_zero_le h1
  have h := u32_xor_nat n 0 (by omega) (by omega)
  simpa using h
theorem u32_xor1 (a : Int) (h1 : 0 ≤ a) (h2 : a < 4294967296) : bits .xor .u32 a 4294967295 = 4294967295 - a := by
  obtain ⟨n, rfl⟩ := Int.eq_ofNat_of_zero_le h1
  have h := u32_xor_nat n 4294967295 (by omega) (by omega)
  have h' := not_nat 32 n (by omega)
  simp only [Nat.reducePow, Nat.reduceSub] at h'
  rw [h', show ((4294967295 : Nat) : Int) = 4294967295 from rfl] at h
  omega

theorem i64_xor0 (a : Nat) (h : a < 9223372036854775808) : bits .xor .i64 (a : Int) 0 = (a : Int) := by
  have h1 : (BitVec.ofInt 64 (a : Int)).toNat = a := ofInt_u64 a (by omega)
  have e := xor0 .i64 (a : Int)
  rw [e]
  show IntKind.i64.wrap ((BitVec.ofInt 64 (a : Int)).toNat : Int) = _
  rw [h1]
  simp [IntKind.wrap, IntKind.bits, IntKind.signed]; omega
theorem i64_xor1 (a : Nat) (h : a < 9223372036854775808) : bits .xor .i64 (a : Int) (-1) = -(a : Int) - 1 := by
  have h1 : (BitVec.ofInt 64 (a : Int)).toNat = a := ofInt_u64 a (by omega)
  have h2 : (BitVec.ofInt 64 (-1)).toNat = 18446744073709551615 := by decide
  show IntKind.i64.wrap ((BitVec.ofInt 64 (a : Int) ^^^ BitVec.ofInt 64 (-1)).toNat : Int) = _
  rw [BitVec.toNat_xor, h1, h2]
  have h' := not_nat 64 a (by omega)
  simp only [Nat.reducePow, Nat.reduceSub] at h'
  rw [h']
  simp [IntKind.wrap, IntKind.bits, IntKind.signed]; omega
theorem i32_xor0 (a : Nat) (h : a < 2147483648) : bits .xor .i32 (a : Int) 0 = (a : Int) := by
  have h1 : (BitVec.ofInt 32 (a : Int)).toNat = a := ofInt_u32 a (by omega)
  have e := xor0 .i32 (a : Int)
  rw [e]
  show IntKind.i32.wrap ((BitVec.ofInt 32 (a : Int)).toNat : Int) = _
  rw [h1]
  simp [IntKind.wrap, IntKind.bits, IntKind.signed]; omega
theorem i32_xor1 (a : Nat) (h : a < 2147483648) : bits .xor .i32 (a : Int) (-1) = -(a : Int) - 1 := by
  have h1 : (BitVec.ofInt 32 (a : Int)).toNat = a := ofInt_u32 a (by omega)
  have h2 : (BitVec.ofInt 32 (-1)).toNat = 4294967295 := by decide
  show IntKind.i32.wrap ((BitVec.ofInt 32 (a : Int) ^^^ BitVec.ofInt 32 (-1)).toNat : Int) = _
  rw [BitVec.toNat_xor, h1, h2]
  have h' := not_nat 32 a (by omega)
  simp only [Nat.reducePow, Nat.reduceSub] at h'
  rw [h']
  simp [IntKind.wrap, IntKind.bits, IntKind.signed]; omega

theorem u64_and1 (a : Int) (h1 : 0 ≤ a) (h2 : a < 18446744073709551616) : bits .and .u64 a 1 = a % 2 := by
  obtain ⟨n, rfl⟩ := Int.eq_ofNat_of_zero_le h1
  have h := u64_and_nat n 1 (by omega) (by omega)
  rw [nat_mask1] at h
  simpa using h
theorem u32_and1 (a : Int) (h1 : 0 ≤ a) (h2 : a < 4294967296) : bits .and .u32 a 1 = a % 2 := by
  obtain ⟨n, rfl⟩ := Int.eq_ofNat_of_zero_le h1
  have h := u32_and_nat n 1 (by omega) (by omega)
  rw [nat_mask1] at h
  simpa using h

/-- how many binary digits a number has -/
def nbits (u : Nat) : Nat := if u = 0 then 0 else Nat.log2 u + 1
theorem nbits_zero : nbits 0 = 0 := rfl
theorem nbits_pos {u : Nat} (h : 0 < u) : nbits u = nbits (u / 2) + 1 := by
  unfold nbits
  rw [if_neg (by omega), Nat.log2_def]
  by_cases h2 : 2 ≤ u
  · rw [if_pos h2, if_neg (by omega)]
  · rw [if_neg h2, if_pos (by omega)]
theorem nbits_lt {u k : Nat} (h : u < 2 ^ k) : nbits u ≤ k := by
  unfold nbits
  by_cases h0 : u = 0
  · simp [h0]
  · rw [if_neg h0]
    have := (Nat.log2_lt h0).2 h
    omega
theorem nbits_mono {a b : Nat} (h : a ≤ b) : nbits a ≤ nbits b := by
  apply nbits_lt
  unfold nbits
  by_cases h0 : b = 0
  · simp [h0]; omega
  · rw [if_neg h0]
    have := Nat.lt_log2_self (n := b)
    omega
theorem nbits_one_le {u : Nat} (h : 0 < u) : 1 ≤ nbits u := by rw [nbits_pos h]; omega

/-- the parts of seven, counted by division -/
def parts (u : Nat) : Nat := max ((nbits u + 6) / 7) 1
theorem nbits_128 {u : Nat} (h : 128 ≤ u) : nbits u = nbits (u / 128) + 7 := by
  rw [nbits_pos (by omega), nbits_pos (u := u / 2) (by omega), nbits_pos (u := u / 2 / 2) (by omega), nbits_pos (u := u / 2 / 2 / 2) (by omega), nbits_pos (u := u / 2 / 2 / 2 / 2) (by omega), nbits_pos (u := u / 2 / 2 / 2 / 2 / 2) (by omega), nbits_pos (u := u / 2 / 2 / 2 / 2 / 2 / 2) (by omega)]
  rw [show u / 2 / 2 / 2 / 2 / 2 / 2 / 2 = u / 128 from by omega]
theorem parts_small {u : Nat} (h : u < 128) : parts u = 1 := by
  have := nbits_lt (u := u) (k := 7) (by omega)
  unfold parts; omega
theorem parts_step {u : Nat} (h : 128 ≤ u) : parts u = parts (u / 128) + 1 := by
  have := nbits_128 h
  have := nbits_one_le (u := u / 128) (by omega)
  unfold parts; omega
theorem parts_le {u : Nat} (h : u < 18446744073709551616) : parts u ≤ 10 := by
  have := nbits_lt (u := u) (k := 64) (by omega)
  unfold parts; omega
theorem parts_pos (u : Nat) : 1 ≤ parts u := by unfold parts; omega
theorem parts_mono {a b : Nat} (h : a ≤ b) : parts a ≤ parts b := by
  have := nbits_mono h
  unfold parts; omega
end Go.Proofs.Ytodgnlhakafhoaa.Num
namespace Go.Proofs.Ytodgnlhakafhoaa.Fits
theorem i64 {n : Int} (h : (Lit.int .i64 n).wf = true) : -9223372036854775808 ≤ n ∧ n ≤ 9223372036854775807 := by
  simp [Lit.wf, IntKind.min, IntKind.max, IntKind.signed, IntKind.bits] at h; omega
theorem u64 {n : Int} (h : (Lit.int .u64 n).wf = true) : 0 ≤ n ∧ n ≤ 18446744073709551615 := by
  simp [Lit.wf, IntKind.min, IntKind.max, IntKind.signed, IntKind.bits] at h; omega
theorem i32 {n : Int} (h : (Lit.int .i32 n).wf = true) : -2147483648 ≤ n ∧ n ≤ 2147483647 := by
  simp [Lit.wf, IntKind.min, IntKind.max, IntKind.signed, IntKind.bits] at h; omega
theorem u32 {n : Int} (h : (Lit.int .u32 n).wf = true) : 0 ≤ n ∧ n ≤ 4294967295 := by
  simp [Lit.wf, IntKind.min, IntKind.max, IntKind.signed, IntKind.bits] at h; omega
theorem u8 {n : Int} (h : (Lit.int .u8 n).wf = true) : 0 ≤ n ∧ n ≤ 255 := by
  simp [Lit.wf, IntKind.min, IntKind.max, IntKind.signed, IntKind.bits] at h; omega
end Go.Proofs.Ytodgnlhakafhoaa.Fits
