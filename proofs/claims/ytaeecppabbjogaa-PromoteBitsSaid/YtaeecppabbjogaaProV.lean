/- The layer promote: whole numbers of bits, in the model. -/
import Derived.Test.YtaeecppabbjogaaProU
namespace Go.Proofs.Ytaeecppabbjogaa.Pro
open Num ProN

theorem cmp_lt {a b : Int} (h : a < b) : compare a b = .lt := by
  show compareOfLessAndEq a b = _
  unfold compareOfLessAndEq
  rw [if_pos h]
theorem cmp_eq (a : Int) : compare a a = .eq := by
  show compareOfLessAndEq a a = _
  unfold compareOfLessAndEq
  rw [if_neg (by omega), if_pos rfl]
theorem cmp_gt {a b : Int} (h : b < a) : compare a b = .gt := by
  show compareOfLessAndEq a b = _
  unfold compareOfLessAndEq
  rw [if_neg (by omega), if_neg (by omega)]
theorem cmp_ne {a b : Int} (h : a ≠ b) : (some (compare a b) == some Ordering.eq) = false := by
  rcases (show a < b ∨ b < a by omega) with h1 | h1
  · rw [cmp_lt h1]; rfl
  · rw [cmp_gt h1]; rfl

theorem read_c1 : Ieee.double.read 14114281232179134464 = .number true 4503599627370496 11 := by decide +kernel
theorem read_c2 : Ieee.double.read 4890909195324358656 = .number false 4503599627370496 11 := by decide +kernel

theorem signed_pos (m k : Nat) : Ieee.signed false m k = ((m * 2 ^ k : Nat) : Int) := by unfold Ieee.signed; rw [Nat.shiftLeft_eq]; rfl
theorem signed_neg (m k : Nat) : Ieee.signed true m k = -((m * 2 ^ k : Nat) : Int) := by unfold Ieee.signed; rw [Nat.shiftLeft_eq]; rfl

theorem order_num (s t : Bool) (m n : Nat) (i j : Int) : (Ieee.Datum.number s m i).order (.number t n j) = some (compare (Ieee.signed s m (i - min i j).toNat) (Ieee.signed t n (j - min i j).toNat)) := rfl

/-- a number of a small exponent lies between -2^63 and 2^63 -/
theorem order_small (s : Bool) (m : Nat) (i : Int) (hm : m < 9007199254740992) (hi : i ≤ 10) :
    (Ieee.Datum.number s m i).order (.number true 4503599627370496 11) = some .gt ∧ (Ieee.Datum.number s m i).order (.number false 4503599627370496 11) = some .lt := by
  rw [order_num, order_num, show min i (11 : Int) = i by omega, show (i - i).toNat = 0 by omega, signed_neg, signed_pos]
  obtain ⟨k, hk⟩ : ∃ k, (11 - i).toNat = k + 1 := ⟨(10 - i).toNat, by omega⟩
  rw [hk, Nat.pow_succ]
  have hp : 0 < 2 ^ k := Nat.pow_pos (by omega)
  have hb : 9007199254740992 ≤ 4503599627370496 * (2 ^ k * 2) := by omega
  generalize 4503599627370496 * (2 ^ k * 2) = X at hb ⊢
  have hs : -(m : Int) ≤ Ieee.signed s m 0 ∧ Ieee.signed s m 0 ≤ (m : Int) := by
    cases s
    · rw [signed_pos]; simp
    · rw [signed_neg]; simp
  exact ⟨by rw [cmp_gt (by omega)], by rw [cmp_lt (by omega)]⟩
/-- a number of a great exponent does not, but -2^63 -/
theorem order_big_pos (m : Nat) (i : Int) (hm : 4503599627370496 ≤ m) (hi : 11 ≤ i) :
    (Ieee.Datum.number false m i).order (.number true 4503599627370496 11) = some .gt ∧ ((Ieee.Datum.number false m i).order (.number false 4503599627370496 11) == some .lt) = false := by
  rw [order_num, order_num, show min i (11 : Int) = 11 by omega, show ((11 : Int) - 11).toNat = 0 by omega, signed_neg, signed_pos, signed_pos]
  have hp : 0 < 2 ^ (i - 11).toNat := Nat.pow_pos (by omega)
  have hb : m ≤ m * 2 ^ (i - 11).toNat := Nat.le_mul_of_pos_right m hp
  generalize m * 2 ^ (i - 11).toNat = X at hb ⊢
  refine ⟨by rw [cmp_gt (by omega)], ?_⟩
  rcases (show X = 4503599627370496 ∨ 4503599627370496 < X by omega) with h | h
  · subst h; rw [show ((4503599627370496 * 2 ^ 0 : Nat) : Int) = ((4503599627370496 : Nat) : Int) by rfl, cmp_eq]; rfl
  · rw [cmp_gt (by omega)]; rfl
theorem order_big_neg (m : Nat) (i : Int) (hm : 4503599627370496 ≤ m) (hi : 11 ≤ i) (hne : ¬ (m = 4503599627370496 ∧ i = 11)) :
    (Ieee.Datum.number true m i).order (.number true 4503599627370496 11) = some .lt := by
  rw [order_num, show min i (11 : Int) = 11 by omega, show ((11 : Int) - 11).toNat = 0 by omega, signed_neg, signed_neg]
  have hp : 0 < 2 ^ (i - 11).toNat := Nat.pow_pos (by omega)
  have hb : 4503599627370496 < m * 2 ^ (i - 11).toNat := by
    by_cases h11 : i = 11
    · subst h11
      simp
      omega
    · obtain ⟨k, hk⟩ : ∃ k, (i - 11).toNat = k + 1 := ⟨(i - 12).toNat, by omega⟩
      rw [hk, Nat.pow_succ]
      have hq : 0 < 2 ^ k := Nat.pow_pos (by omega)
      have h2 : m * 2 ≤ m * (2 ^ k * 2) := Nat.mul_le_mul_left m (by omega)
      omega
  generalize m * 2 ^ (i - 11).toNat = X at hb ⊢
  rw [cmp_lt (by omega)]

/-- cut to the whole number -/
theorem cutz (s : Bool) (n drop : Nat) : Ieee.Toward.zero.cut s n drop = n / 2 ^ drop := by
  unfold Ieee.Toward.cut
  simp only [Nat.one_shiftLeft, Bool.toNat_false, Nat.add_zero]
  by_cases h : drop ≤ n.log2 + 2
  · rw [Nat.min_eq_left h]
  · rw [Nat.min_eq_right (by omega)]
    have h1 : n < 2 ^ (n.log2 + 1) := Nat.lt_log2_self
    have h2 : 2 ^ (n.log2 + 1) ≤ 2 ^ (n.log2 + 2) := Nat.pow_le_pow_right (by omega) (by omega)
    have h3 : 2 ^ (n.log2 + 1) ≤ 2 ^ drop := Nat.pow_le_pow_right (by omega) (by omega)
    rw [Nat.div_eq_of_lt (by omega), Nat.div_eq_of_lt (by omega)]
def cutM (m : Nat) (i : Int) : Nat := m * 2 ^ i.toNat / 2 ^ (-i).toNat
theorem integral_num (s : Bool) (m : Nat) (i : Int) : (Ieee.Datum.number s m i).integral .zero = .number s (cutM m i) 0 := by
  show Ieee.Datum.number s _ 0 = _
  rw [cutz, Nat.shiftLeft_eq]; rfl
theorem toInt_num (s : Bool) (m : Nat) (i : Int) : (Ieee.Datum.number s m i).toInt .zero = some (if s then -(cutM m i : Int) else cutM m i) := by
  unfold Ieee.Datum.toInt
  rw [integral_num]
  show some (Ieee.signed s (cutM m i) 0) = _
  cases s
  · rw [signed_pos]; simp
  · rw [signed_neg]; simp

/-- a zero stays one -/
theorem trunc_zero (s : Bool) : Ieee.double.write (.number s 0 0) = if s then 9223372036854775808 else 0 := by
  rw [write_num, nearest_zero]
theorem trunc_some (s : Bool) {M : Nat} (h0 : 0 < M) (hM : high M ≤ 63) : Ieee.double.write (.number s M 0) = (if s then 9223372036854775808 else 0) + mag M 1023 52 := by
  rw [write_num, nearest64 s M h0 hM]

theorem read_word (s : Bool) {M : Nat} (h0 : 0 < M) (hM : high M ≤ 52) : ∃ m' : Nat, m' = M * 2 ^ (52 - high M) ∧ Ieee.double.read ((if s then 9223372036854775808 else 0) + mag M 1023 52) = .number s m' ((high M : Int) - 52) := by
  obtain ⟨r, hr1, hr2, hr3⟩ := mant_split (digits := 52) h0 hM
  have hms := mag_split (u := M) (bias := 1023) (digits := 52) (by omega) hr3
  have e52 : (2 : Nat) ^ 52 = 4503599627370496 := by decide +kernel
  rw [e52] at hr1 hr2 hms
  rw [hms]
  refine ⟨_, rfl, ?_⟩
  rw [hr2]
  generalize high M = H at hM ⊢
  have hd : ∀ S : Nat, S ≤ 1 → (S * 9223372036854775808 + ((1023 + H) * 4503599627370496 + r) < 18446744073709551616 ∧ ex (S * 9223372036854775808 + ((1023 + H) * 4503599627370496 + r)) = 1023 + H ∧ fr (S * 9223372036854775808 + ((1023 + H) * 4503599627370496 + r)) = r ∧ (sg (S * 9223372036854775808 + ((1023 + H) * 4503599627370496 + r)) = decide (S = 1))) := by
    intro S hS
    refine ⟨by omega, by unfold ex; omega, by unfold fr; omega, ?_⟩
    unfold sg
    rw [decide_eq_decide]
    omega
  cases s
  · obtain ⟨g1, g2, g3, g4⟩ := hd 0 (by omega)
    rw [Nat.zero_mul] at g1 g2 g3 g4
    have := (read64 g1).2.1 (by omega) (by omega)
    rw [g2, g3, g4] at this
    simp only [Bool.false_eq_true, if_false]
    rw [this]
    congr 1
    omega
  · obtain ⟨g1, g2, g3, g4⟩ := hd 1 (by omega)
    rw [Nat.one_mul] at g1 g2 g3 g4
    have := (read64 g1).2.1 (by omega) (by omega)
    rw [g2, g3, g4] at this
    simp only [if_true]
    rw [this]
    congr 1
    omega

/-- a number cut is itself just if nothing was cut -/
theorem order_cut (s : Bool) {M m : Nat} {i : Int} (h0 : 0 < M) (hM : high M ≤ 52) (hi : i ≤ 0) (hne : M * 2 ^ (-i).toNat ≠ m) :
    ((Ieee.double.read (Ieee.double.write (.number s M 0))).order (.number s m i) == some .eq) = false := by
  rw [trunc_some s h0 (by omega)]
  obtain ⟨m', hm', hr⟩ := read_word s h0 hM
  rw [hr, order_num]
  have hb : m' * 2 ^ ((high M : Int) - 52 - min ((high M : Int) - 52) i).toNat ≠ m * 2 ^ (i - min ((high M : Int) - 52) i).toNat := by
    intro h
    apply hne
    rw [hm', Nat.mul_assoc, ← Nat.pow_add] at h
    rw [show 52 - high M + ((high M : Int) - 52 - min ((high M : Int) - 52) i).toNat = (-i).toNat + (i - min ((high M : Int) - 52) i).toNat by omega, Nat.pow_add, ← Nat.mul_assoc] at h
    exact Nat.eq_of_mul_eq_mul_right (Nat.pow_pos (by omega)) h
  refine cmp_ne ?_
  cases s
  · rw [signed_pos, signed_pos]; omega
  · rw [signed_neg, signed_neg]; omega
theorem order_zero (s : Bool) {m : Nat} {i : Int} (hm : 0 < m) :
    ((Ieee.double.read (Ieee.double.write (.number s 0 0))).order (.number s m i) == some .eq) = false := by
  have hr : Ieee.double.read (Ieee.double.write (.number s 0 0)) = .number s 0 (-1074) := by
    rw [trunc_zero]; cases s <;> decide +kernel
  rw [hr, order_num]
  refine cmp_ne ?_
  have hp : 0 < m * 2 ^ (i - min (-1074) i).toNat := Nat.mul_pos hm (Nat.pow_pos (by omega))
  cases s
  · rw [signed_pos, signed_pos]; simp only [Nat.zero_mul]; omega
  · rw [signed_neg, signed_neg]; simp only [Nat.zero_mul]; omega
theorem order_self (s : Bool) (m : Nat) (i : Int) : ((Ieee.Datum.number s m i).order (.number s m i) == some .eq) = true := by
  rw [order_num, cmp_eq]; rfl
end Go.Proofs.Ytaeecppabbjogaa.Pro
