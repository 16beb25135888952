/- The layer promote: what the model's floating numbers of given bits are, how they stand to one another; no function of the program here. -/
import Derived.Test.YtaeecppabbjogaaProF
namespace Go.Proofs.Ytaeecppabbjogaa.Pro
open Num ProN

def sg (d : Nat) : Bool := decide (9223372036854775808 ≤ d)
def ex (d : Nat) : Nat := d / 4503599627370496 % 2048
def fr (d : Nat) : Nat := d % 4503599627370496

theorem dbl_consts : Ieee.double.signWeight = 9223372036854775808 ∧ Ieee.double.binade = 4503599627370496 ∧ Ieee.double.infRung = 9218868437227405312 ∧ Ieee.double.leastPlace = -1074 := by decide +kernel
theorem sgl_consts : Ieee.single.signWeight = 2147483648 ∧ Ieee.single.binade = 8388608 ∧ Ieee.single.infRung = 2139095040 ∧ Ieee.single.leastPlace = -149 := by decide +kernel

theorem sg_eq {d : Nat} (hd : d < 18446744073709551616) : (d / 9223372036854775808 % 2 == 1) = sg d := by
  unfold sg
  by_cases h : 9223372036854775808 ≤ d
  · rw [decide_eq_true h, beq_iff_eq]; omega
  · rw [decide_eq_false h, beq_eq_false_iff_ne]; omega

theorem read64 {d : Nat} (hd : d < 18446744073709551616) :
    (ex d = 0 → Ieee.double.read d = .number (sg d) (fr d) (-1074)) ∧
    (1 ≤ ex d → ex d ≤ 2046 → Ieee.double.read d = .number (sg d) (4503599627370496 + fr d) ((ex d : Int) - 1075)) ∧
    (ex d = 2047 → fr d = 0 → Ieee.double.read d = .infinity (sg d)) ∧
    (ex d = 2047 → fr d ≠ 0 → Ieee.double.read d = .nan (sg d) (fr d)) := by
  obtain ⟨c1, c2, c3, c4⟩ := dbl_consts
  unfold Ieee.Format.read
  rw [c1, c2, c3, c4, sg_eq hd]
  unfold ex fr
  refine ⟨fun h => ?_, fun h h' => ?_, fun h h' => ?_, fun h h' => ?_⟩
  · simp only []
    rw [if_pos (by omega)]
    have e1 : d % 9223372036854775808 = d % 4503599627370496 := by omega
    rw [e1]
  · simp only []
    rw [if_neg (by omega), if_pos (by omega)]
    have e1 : d % 9223372036854775808 % 4503599627370496 = d % 4503599627370496 := by omega
    have e2 : (-1074 : Int) + ((d % 9223372036854775808 / 4503599627370496 - 1 : Nat) : Int) = ((d / 4503599627370496 % 2048 : Nat) : Int) - 1075 := by omega
    rw [e1, e2]
  · simp only []
    rw [if_neg (by omega), if_neg (by omega), if_pos (by omega)]
  · simp only []
    rw [if_neg (by omega), if_neg (by omega), if_neg (by omega)]
    have e1 : d % 9223372036854775808 - 9218868437227405312 = d % 4503599627370496 := by omega
    rw [e1]

def ex32 (d : Nat) : Nat := d / 8388608 % 256
def fr32 (d : Nat) : Nat := d % 8388608
theorem sg32_eq {d : Nat} (hd : d < 4294967296) : (d / 2147483648 % 2 == 1) = decide (2147483648 ≤ d) := by
  by_cases h : 2147483648 ≤ d
  · rw [decide_eq_true h, beq_iff_eq]; omega
  · rw [decide_eq_false h, beq_eq_false_iff_ne]; omega
theorem read32 {d : Nat} (hd : d < 4294967296) :
    (ex32 d = 0 → Ieee.single.read d = .number (decide (2147483648 ≤ d)) (fr32 d) (-149)) ∧
    (1 ≤ ex32 d → ex32 d ≤ 254 → Ieee.single.read d = .number (decide (2147483648 ≤ d)) (8388608 + fr32 d) ((ex32 d : Int) - 150)) := by
  obtain ⟨c1, c2, c3, c4⟩ := sgl_consts
  unfold Ieee.Format.read
  rw [c1, c2, c3, c4, sg32_eq hd]
  unfold ex32 fr32
  refine ⟨fun h => ?_, fun h h' => ?_⟩
  · simp only []
    rw [if_pos (by omega)]
    have e1 : d % 2147483648 = d % 8388608 := by omega
    rw [e1]
  · simp only []
    rw [if_neg (by omega), if_pos (by omega)]
    have e1 : d % 2147483648 % 8388608 = d % 8388608 := by omega
    have e2 : (-149 : Int) + ((d % 2147483648 / 8388608 - 1 : Nat) : Int) = ((d / 8388608 % 256 : Nat) : Int) - 150 := by omega
    rw [e1, e2]

theorem le_inf {E M : Nat} (h1 : E ≤ 9209861237972664320) (h2 : M < 9007199254740992) : E + M ≤ 9218868437227405312 := by omega
/-- the word of a number of few digits, at a place -/
theorem nearest_at (neg : Bool) (u : Nat) (p : Int) (h0 : 0 < u) (hu : high u ≤ 52) (h1 : -1022 ≤ p + high u) (h2 : p + high u ≤ 1023) :
    Ieee.double.nearest neg u p = (if neg then 9223372036854775808 else 0) + ((p + high u + 1022).toNat * 4503599627370496 + mant u 52) := by
  obtain ⟨c1, c2, c3, c4⟩ := dbl_consts
  unfold Ieee.Format.nearest
  rw [if_neg (by omega)]
  have hlast : max (p + (Nat.log2 u : Int) - (Ieee.double.fractionBits : Int)) Ieee.double.leastPlace = p + (high u : Int) - 52 := by
    have e1 : (Ieee.double.fractionBits : Int) = 52 := rfl
    rw [e1, c4]
    show max (p + (high u : Int) - 52) (-1074) = _
    omega
  simp only [hlast]
  rw [show (p - (p + (high u : Int) - 52)).toNat = 52 - high u by omega, show (p + (high u : Int) - 52 - p).toNat = 0 by omega, Nat.shiftLeft_eq, cut_rnd neg _ 0 (by omega) (by omega)]
  have hr : rnd (u * 2 ^ (52 - high u)) 0 = mant u 52 := by unfold rnd mant; rw [if_pos rfl, if_pos hu]
  rw [hr, c2, c3, c4, show (p + (high u : Int) - 52 - -1074).toNat = (p + high u + 1022).toNat by omega]
  have hm : mant u 52 < 9007199254740992 := by
    obtain ⟨r, hr1, _, hr3⟩ := mant_split (digits := 52) h0 hu
    rw [hr3]
    have : (2 : Nat) ^ 52 = 4503599627370496 := by decide +kernel
    omega
  have hE : (p + high u + 1022).toNat ≤ 2045 := by omega
  have hEE : (p + high u + 1022).toNat * 4503599627370496 ≤ 9209861237972664320 := Nat.le_trans (Nat.mul_le_mul hE (Nat.le_refl _)) (by decide +kernel)
  rw [Nat.min_eq_left (le_inf hEE hm)]
  unfold Ieee.Format.word
  rw [c1]
  cases neg <;> simp

theorem write_num (neg : Bool) (u : Nat) (p : Int) : Ieee.double.write (.number neg u p) = Ieee.double.nearest neg u p := rfl
theorem nearest_zero (neg : Bool) (p : Int) : Ieee.double.nearest neg 0 p = (if neg then 9223372036854775808 else 0) := by
  unfold Ieee.Format.nearest Ieee.Format.word
  rw [if_pos rfl, dbl_consts.1]
end Go.Proofs.Ytaeecppabbjogaa.Pro
