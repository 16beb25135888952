/- Plain numbers for the layer promote; no program here. -/
import Derived.Test.YtaeecppabbjogaaNum
namespace Go.Proofs.Ytaeecppabbjogaa.ProN
open Num

/-- a number without some binary digits, rounded -/
def rnd (u d : Nat) : Nat :=
  if d = 0 then u else if 64 < d then 0 else
    if 2 ^ (d - 1) < u % 2 ^ d ∨ (u % 2 ^ d = 2 ^ (d - 1) ∧ u / 2 ^ d % 2 = 1) then u / 2 ^ d + 1 else u / 2 ^ d

theorem clear_high (u d : Nat) (hu : u < 2 ^ 64) : u &&& (18446744073709551615 - u / 2 ^ d * 2 ^ d) = u % 2 ^ d := by
  have hb : u / 2 ^ d * 2 ^ d < 2 ^ 64 := Nat.lt_of_le_of_lt (Nat.div_mul_le_self u (2 ^ d)) hu
  have e : 18446744073709551615 - u / 2 ^ d * 2 ^ d = 2 ^ 64 - (u / 2 ^ d * 2 ^ d + 1) := by omega
  rw [e]
  apply Nat.eq_of_testBit_eq
  intro i
  rw [Nat.testBit_and, Nat.testBit_two_pow_sub_succ hb, Nat.testBit_mod_two_pow, ← Nat.shiftLeft_eq, Nat.testBit_shiftLeft, Nat.testBit_div_two_pow]
  by_cases h1 : i < d
  · have h2 : i < 64 ∨ ¬ i < 64 := by omega
    rcases h2 with h2 | h2
    · simp [h1, h2, show ¬ d ≤ i by omega]
    · have h3 : u.testBit i = false := Nat.testBit_lt_two_pow (Nat.lt_of_lt_of_le hu (Nat.pow_le_pow_right (by omega) (by omega)))
      simp [h3]
  · simp [h1, show d ≤ i by omega, show i - d + d = i by omega]
    intro h3 _
    exact h3
theorem andNot_val (u d : Nat) (hu : u ≤ 18446744073709551615) : bits BinOp.andNot IntKind.u64 (u : Int) (IntKind.u64.wrap (((u / 2 ^ d : Nat) : Int) * 2 ^ d)) = ((u % 2 ^ d : Nat) : Int) := by
  have hb : u / 2 ^ d * 2 ^ d ≤ u := Nat.div_mul_le_self u (2 ^ d)
  have e : IntKind.u64.wrap (((u / 2 ^ d : Nat) : Int) * 2 ^ d) = ((u / 2 ^ d * 2 ^ d : Nat) : Int) := by
    rw [wrap_u64, show ((2 : Int) ^ d) = ((2 ^ d : Nat) : Int) by simp, ← Int.natCast_mul]
    omega
  rw [e, u64_andNot_nat _ _ (by omega) (by omega), clear_high u d (by omega)]
theorem half_val (d : Nat) (h1 : 1 ≤ d) (h2 : d ≤ 64) : IntKind.u64.wrap ((2 : Int) ^ (d - 1)) = ((2 ^ (d - 1) : Nat) : Int) := by
  have hp : 2 ^ (d - 1) ≤ 2 ^ 63 := Nat.pow_le_pow_right (by omega) (by omega)
  rw [wrap_u64, show ((2 : Int) ^ (d - 1)) = ((2 ^ (d - 1) : Nat) : Int) by simp]
  have hq : 0 < 2 ^ (d - 1) := Nat.pow_pos (by omega)
  generalize 2 ^ (d - 1) = H at hp hq ⊢
  omega
theorem div_val (u d : Nat) : (u : Int) / 2 ^ d = ((u / 2 ^ d : Nat) : Int) := by
  rw [show ((2 : Int) ^ d) = ((2 ^ d : Nat) : Int) by simp, Int.natCast_ediv]

/-- the place of the highest digit -/
def high (u : Nat) : Nat := Nat.log2 u
theorem nbits_high {u : Nat} (h : 0 < u) : nbits u = high u + 1 := by unfold nbits high; rw [if_neg (by omega)]
theorem high_le {u : Nat} (h : 0 < u) : 2 ^ high u ≤ u := Nat.log2_self_le (by omega)
theorem high_lt (u : Nat) : u < 2 ^ (high u + 1) := Nat.lt_log2_self
theorem high_small {u k : Nat} (h0 : 0 < u) (h : u < 2 ^ (k + 1)) : high u ≤ k := by
  have := (Nat.log2_lt (by omega : u ≠ 0)).2 h
  unfold high; omega
theorem high_mono {u v : Nat} (h0 : 0 < u) (h : u ≤ v) : high u ≤ high v := high_small h0 (Nat.lt_of_le_of_lt h (high_lt v))

def mant (u digits : Nat) : Nat := if high u ≤ digits then u * 2 ^ (digits - high u) else rnd u (high u - digits)
def mag (u bias digits : Nat) : Nat := (bias + high u - 1) * 2 ^ digits + mant u digits
def fbits (n : Int) (sign bias digits : Nat) : Nat := if n = 0 then 0 else (if n < 0 then sign else 0) + mag n.natAbs bias digits

theorem rnd_mono {u v d : Nat} (h : u ≤ v) : rnd u d ≤ rnd v d := by
  unfold rnd
  by_cases h0 : d = 0
  · rw [if_pos h0, if_pos h0]; exact h
  · rw [if_neg h0, if_neg h0]
    by_cases h1 : 64 < d
    · rw [if_pos h1, if_pos h1]; omega
    · rw [if_neg h1, if_neg h1]
      have hq := Nat.div_le_div_right (c := 2 ^ d) h
      rcases Nat.lt_or_eq_of_le hq with hq | hq
      · split <;> split <;> omega
      · have hu := Nat.div_add_mod u (2 ^ d)
        have hv := Nat.div_add_mod v (2 ^ d)
        rw [hq] at hu ⊢
        have hr : u % 2 ^ d ≤ v % 2 ^ d := by omega
        split <;> split <;> omega
theorem rnd_lo (u d : Nat) (hd : d ≤ 64) : u / 2 ^ d ≤ rnd u d := by
  unfold rnd
  by_cases h0 : d = 0
  · subst h0; simp
  · rw [if_neg h0, if_neg (by omega)]
    split <;> omega
theorem rnd_hi (u d : Nat) : rnd u d ≤ u / 2 ^ d + 1 := by
  unfold rnd
  by_cases h0 : d = 0
  · subst h0; simp
  · rw [if_neg h0]
    split
    · exact Nat.zero_le _
    · split <;> omega

theorem mant_lo {u digits : Nat} (h0 : 0 < u) (hu : high u ≤ 63) : 2 ^ digits ≤ mant u digits := by
  have h1 := high_le h0
  unfold mant
  by_cases h : high u ≤ digits
  · rw [if_pos h]
    calc 2 ^ digits = 2 ^ high u * 2 ^ (digits - high u) := by rw [← Nat.pow_add]; congr 1; omega
      _ ≤ u * 2 ^ (digits - high u) := Nat.mul_le_mul_right _ h1
  · rw [if_neg h]
    refine Nat.le_trans ?_ (rnd_lo u _ (by omega))
    rw [Nat.le_div_iff_mul_le (Nat.pow_pos (by omega)), ← Nat.pow_add, show digits + (high u - digits) = high u by omega]
    exact h1
theorem mant_hi (u digits : Nat) : mant u digits ≤ 2 ^ (digits + 1) := by
  have h1 := high_lt u
  unfold mant
  by_cases h : high u ≤ digits
  · rw [if_pos h]
    calc u * 2 ^ (digits - high u) ≤ 2 ^ (high u + 1) * 2 ^ (digits - high u) := Nat.mul_le_mul_right _ (Nat.le_of_lt h1)
      _ = 2 ^ (digits + 1) := by rw [← Nat.pow_add]; congr 1; omega
  · rw [if_neg h]
    refine Nat.le_trans (rnd_hi u _) ?_
    have : u / 2 ^ (high u - digits) < 2 ^ (digits + 1) := by
      rw [Nat.div_lt_iff_lt_mul (Nat.pow_pos (by omega)), ← Nat.pow_add, show digits + 1 + (high u - digits) = high u + 1 by omega]
      exact h1
    omega
theorem mant_mono {u v digits : Nat} (h : u ≤ v) (he : high u = high v) : mant u digits ≤ mant v digits := by
  unfold mant
  rw [he]
  split
  · exact Nat.mul_le_mul_right _ h
  · exact rnd_mono h
theorem mag_mono {u v bias digits : Nat} (h0 : 0 < u) (h : u ≤ v) (hv : high v ≤ 63) (hb : 1 ≤ bias) : mag u bias digits ≤ mag v bias digits := by
  have hh := high_mono h0 h
  unfold mag
  rcases Nat.lt_or_eq_of_le hh with hlt | he
  · have h1 := mant_hi u digits
    have h2 := mant_lo (u := v) (digits := digits) (by omega) hv
    have h3 : (bias + high u - 1 + 2) * 2 ^ digits ≤ (bias + high v - 1 + 1) * 2 ^ digits := Nat.mul_le_mul_right _ (by omega)
    have h4 : (bias + high v - 1 + 1) * 2 ^ digits = (bias + high v - 1) * 2 ^ digits + 2 ^ digits := by rw [Nat.add_mul, Nat.one_mul]
    have h5 : (bias + high u - 1 + 2) * 2 ^ digits = (bias + high u - 1) * 2 ^ digits + 2 * 2 ^ digits := by rw [Nat.add_mul]
    rw [Nat.pow_succ] at h1
    omega
  · rw [he]
    have := mant_mono (digits := digits) h he
    omega
theorem mag_lt {u bias digits : Nat} (hu : high u ≤ 63) (hb : bias ≤ 1023) (hd : digits ≤ 52) : mag u bias digits < 9223372036854775808 := by
  unfold mag
  have h1 := mant_hi u digits
  have h2 : 2 ^ digits ≤ 2 ^ 52 := Nat.pow_le_pow_right (by omega) hd
  have h3 : (bias + high u - 1) * 2 ^ digits ≤ 1085 * 2 ^ 52 := Nat.mul_le_mul (by omega) h2
  rw [Nat.pow_succ] at h1
  omega
theorem mag_lt32 {u : Nat} (hu : high u ≤ 63) : mag u 127 23 < 2147483648 := by
  unfold mag
  have h1 := mant_hi u 23
  have h3 : (127 + high u - 1) * 2 ^ 23 ≤ 189 * 2 ^ 23 := Nat.mul_le_mul (by omega) (Nat.le_refl _)
  omega
end Go.Proofs.Ytaeecppabbjogaa.ProN
