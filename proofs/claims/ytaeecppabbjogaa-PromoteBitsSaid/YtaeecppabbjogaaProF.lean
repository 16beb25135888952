/- The layer promote: the model's nearest floating number, by the numbers of ProN; no function of the program here. -/
import Derived.Test.YtaeecppabbjogaaProX
import Derived.Laws.FloatArith
namespace Go.Proofs.Ytaeecppabbjogaa.Pro
open Num ProN

theorem cut_rnd (neg : Bool) (u d : Nat) (hd : d ≤ 64) (hl : d ≤ high u + 2) : Ieee.Toward.even.cut neg u d = rnd u d := by
  unfold Ieee.Toward.cut
  have hm : min d (Nat.log2 u + 2) = d := Nat.min_eq_left hl
  rw [hm]
  simp only [Nat.one_shiftLeft]
  unfold rnd
  by_cases h0 : d = 0
  · subst h0
    rw [if_pos rfl]
    simp [Nat.mod_one]
  · rw [if_neg h0, if_neg (by omega)]
    have hp : 2 ^ d = 2 * 2 ^ (d - 1) := by rw [← Nat.pow_succ']; congr 1; omega
    generalize u / 2 ^ d = q
    generalize u % 2 ^ d = r
    rw [hp]
    generalize 2 ^ (d - 1) = H
    by_cases h1 : H < r
    · rw [if_pos (.inl h1)]
      have e : decide (2 * H < 2 * r) = true := by simp; omega
      rw [e]; rfl
    · by_cases h2 : r = H ∧ q % 2 = 1
      · rw [if_pos (.inr h2)]
        obtain ⟨rfl, h3⟩ := h2
        simp [h3]
      · rw [if_neg (by omega)]
        have e : decide (2 * H < 2 * r) = false := by simp; omega
        rw [e]
        have e2 : (2 * H == 2 * r && q % 2 == 1) = false := by
          rw [Bool.and_eq_false_iff]
          by_cases h3 : r = H
          · right
            have : ¬ q % 2 = 1 := fun h => h2 ⟨h3, h⟩
            simp [this]
          · left; simp; omega
        rw [e2]; rfl

theorem kept_mant (neg : Bool) (u digits : Nat) (hu : high u ≤ 63) (hd : digits ≤ 60) (last : Int) (hlast : last = (high u : Int) - digits) :
    Ieee.Toward.even.cut neg (u <<< ((0 : Int) - last).toNat) (last - 0).toNat = mant u digits := by
  unfold mant
  by_cases h : high u ≤ digits
  · rw [if_pos h, show ((0 : Int) - last).toNat = digits - high u by omega, show (last - 0).toNat = 0 by omega, Nat.shiftLeft_eq, cut_rnd neg _ 0 (by omega) (by omega)]
    unfold rnd; rw [if_pos rfl]
  · rw [if_neg h, show ((0 : Int) - last).toNat = 0 by omega, show (last - 0).toNat = high u - digits by omega, Nat.shiftLeft_zero, cut_rnd neg u _ (by omega) (by omega)]

set_option maxRecDepth 100000 in
theorem mag_inf64 {u : Nat} (hu : high u ≤ 63) : mag u 1023 52 ≤ 9218868437227405312 := by
  have h1 : mant u 52 ≤ 9007199254740992 := mant_hi u 52
  have h3 : (1023 + high u - 1) * 4503599627370496 ≤ 4886405595696988160 := Nat.le_trans (Nat.mul_le_mul (show 1023 + high u - 1 ≤ 1085 by omega) (Nat.le_refl _)) (by decide +kernel)
  unfold mag
  rw [show (2 : Nat) ^ 52 = 4503599627370496 from by decide +kernel]
  generalize (1023 + high u - 1) * 4503599627370496 = E at h3 ⊢
  generalize mant u 52 = M at h1 ⊢
  omega
set_option maxRecDepth 100000 in
theorem mag_inf32 {u : Nat} (hu : high u ≤ 63) : mag u 127 23 ≤ 2139095040 := by
  have h1 : mant u 23 ≤ 16777216 := mant_hi u 23
  have h3 : (127 + high u - 1) * 8388608 ≤ 1585446912 := Nat.le_trans (Nat.mul_le_mul (show 127 + high u - 1 ≤ 189 by omega) (Nat.le_refl _)) (by decide +kernel)
  unfold mag
  rw [show (2 : Nat) ^ 23 = 8388608 from by decide +kernel]
  generalize (127 + high u - 1) * 8388608 = E at h3 ⊢
  generalize mant u 23 = M at h1 ⊢
  omega

theorem nearest64 (neg : Bool) (u : Nat) (h0 : 0 < u) (hu : high u ≤ 63) : Ieee.double.nearest neg u 0 = (if neg then 9223372036854775808 else 0) + mag u 1023 52 := by
  unfold Ieee.Format.nearest
  rw [if_neg (by omega)]
  have hlast : max ((0 : Int) + (Nat.log2 u : Int) - (Ieee.double.fractionBits : Int)) Ieee.double.leastPlace = (high u : Int) - 52 := by
    have e1 : (Ieee.double.fractionBits : Int) = 52 := rfl
    have e2 : Ieee.double.leastPlace = -1074 := by decide
    rw [e1, e2]
    show max ((0 : Int) + (high u : Int) - 52) (-1074) = _
    omega
  simp only [hlast]
  rw [kept_mant neg u 52 hu (by omega) ((high u : Int) - 52) rfl]
  have e2 : Ieee.double.leastPlace = -1074 := by decide
  have e3 : Ieee.double.binade = 2 ^ 52 := rfl
  have e4 : Ieee.double.infRung = 9218868437227405312 := by decide
  rw [e2, e3, e4, show ((high u : Int) - 52 - -1074).toNat = 1023 + high u - 1 by omega]
  have hm := mag_inf64 hu
  unfold mag at hm ⊢
  rw [Nat.min_eq_left hm]
  unfold Ieee.Format.word
  have e5 : Ieee.double.signWeight = 9223372036854775808 := by decide
  rw [e5]
  cases neg <;> simp
theorem nearest32 (neg : Bool) (u : Nat) (h0 : 0 < u) (hu : high u ≤ 63) : Ieee.single.nearest neg u 0 = (if neg then 2147483648 else 0) + mag u 127 23 := by
  unfold Ieee.Format.nearest
  rw [if_neg (by omega)]
  have hlast : max ((0 : Int) + (Nat.log2 u : Int) - (Ieee.single.fractionBits : Int)) Ieee.single.leastPlace = (high u : Int) - 23 := by
    have e1 : (Ieee.single.fractionBits : Int) = 23 := rfl
    have e2 : Ieee.single.leastPlace = -149 := by decide
    rw [e1, e2]
    show max ((0 : Int) + (high u : Int) - 23) (-149) = _
    omega
  simp only [hlast]
  rw [kept_mant neg u 23 hu (by omega) ((high u : Int) - 23) rfl]
  have e2 : Ieee.single.leastPlace = -149 := by decide
  have e3 : Ieee.single.binade = 2 ^ 23 := rfl
  have e4 : Ieee.single.infRung = 2139095040 := by decide
  rw [e2, e3, e4, show ((high u : Int) - 23 - -149).toNat = 127 + high u - 1 by omega]
  have hm := mag_inf32 hu
  unfold mag at hm ⊢
  rw [Nat.min_eq_left hm]
  unfold Ieee.Format.word
  have e5 : Ieee.single.signWeight = 2147483648 := by decide
  rw [e5]
  cases neg <;> simp

theorem of_int64 (n : Int) (h1 : -9223372036854775808 ≤ n) (h2 : n ≤ 9223372036854775807) : floatOfInt .f64 n = dbl n := by
  show Ieee.double.nearest (decide (n < 0)) n.natAbs 0 = _
  unfold dbl fbits
  by_cases h0 : n = 0
  · subst h0; decide
  · rw [if_neg h0, nearest64 _ _ (by omega) (high_small (by omega) (by omega))]
    by_cases hn : n < 0
    · simp [hn]
    · simp [hn]
theorem of_int32 (n : Int) (h1 : -9223372036854775808 ≤ n) (h2 : n ≤ 9223372036854775807) : floatOfInt .f32 n = flt n := by
  show Ieee.single.nearest (decide (n < 0)) n.natAbs 0 = _
  unfold flt fbits
  by_cases h0 : n = 0
  · subst h0; decide
  · rw [if_neg h0, nearest32 _ _ (by omega) (high_small (by omega) (by omega))]
    by_cases hn : n < 0
    · simp [hn]
    · simp [hn]
end Go.Proofs.Ytaeecppabbjogaa.Pro
