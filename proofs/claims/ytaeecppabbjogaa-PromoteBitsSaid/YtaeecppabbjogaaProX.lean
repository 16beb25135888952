/- The layer promote: plain laws of exactness. -/
import Derived.Test.YtaeecppabbjogaaProL
namespace Go.Proofs.Ytaeecppabbjogaa.Pro
open Num ProN

theorem high_eq {u x : Nat} (h1 : 2 ^ x ≤ u) (h2 : u < 2 ^ (x + 1)) : high u = x := by
  have h0 : 0 < u := Nat.lt_of_lt_of_le (Nat.pow_pos (by omega)) h1
  have h3 := high_small h0 h2
  have h4 : x ≤ high u := by
    unfold high
    exact (Nat.le_log2 (by omega)).2 h1
  omega

/-- a number of few digits, put to the left: its highest digit, and the rest -/
theorem mant_split {u digits : Nat} (h0 : 0 < u) (hh : high u ≤ digits) : ∃ r, r < 2 ^ digits ∧ u * 2 ^ (digits - high u) = 2 ^ digits + r ∧ mant u digits = 2 ^ digits + r := by
  have h1 := high_le h0
  have h2 := high_lt u
  have h3 : 2 ^ digits ≤ u * 2 ^ (digits - high u) := by
    calc 2 ^ digits = 2 ^ high u * 2 ^ (digits - high u) := by rw [← Nat.pow_add]; congr 1; omega
      _ ≤ u * 2 ^ (digits - high u) := Nat.mul_le_mul_right _ h1
  have h4 : u * 2 ^ (digits - high u) < 2 ^ (digits + 1) := by
    calc u * 2 ^ (digits - high u) < 2 ^ (high u + 1) * 2 ^ (digits - high u) := Nat.mul_lt_mul_of_pos_right h2 (Nat.pow_pos (by omega))
      _ = 2 ^ (digits + 1) := by rw [← Nat.pow_add]; congr 1; omega
  rw [Nat.pow_succ] at h4
  refine ⟨u * 2 ^ (digits - high u) - 2 ^ digits, by omega, by omega, ?_⟩
  unfold mant
  rw [if_pos hh]
  omega
theorem mag_split {u bias digits r : Nat} (hb : 1 ≤ bias) (hm : mant u digits = 2 ^ digits + r) : mag u bias digits = (bias + high u) * 2 ^ digits + r := by
  obtain ⟨b, hb'⟩ : ∃ b, bias + high u = b + 1 := ⟨bias + high u - 1, by omega⟩
  unfold mag
  rw [hm, hb', Nat.add_mul, Nat.one_mul, Nat.add_sub_cancel]
  omega

theorem wide_flt (m : Int) (h1 : -8388608 ≤ m) (h2 : m ≤ 8388608) : wide (flt m) = dbl m := by
  unfold flt dbl fbits
  by_cases h0 : m = 0
  · rw [if_pos h0, if_pos h0]; decide +kernel
  · rw [if_neg h0, if_neg h0]
    have hu : 0 < m.natAbs := by omega
    have hh := high_small (u := m.natAbs) (k := 23) hu (by omega)
    obtain ⟨r, r1, r2, r3⟩ := mant_split (digits := 23) hu (by omega)
    obtain ⟨q, q1, q2, q3⟩ := mant_split (digits := 52) hu (by omega)
    rw [mag_split (by omega) r3, mag_split (by omega) q3]
    have hq : q = r * 536870912 := by
      have e : m.natAbs * 2 ^ (52 - high m.natAbs) = m.natAbs * 2 ^ (23 - high m.natAbs) * 2 ^ 29 := by
        rw [Nat.mul_assoc, ← Nat.pow_add]; congr 2; omega
      rw [q2, r2] at e
      omega
    subst hq
    clear q2 q3 r2 r3 q1
    generalize high m.natAbs = h at hh ⊢
    have r1' : r < 8388608 := r1
    unfold wide
    rw [show (2 : Nat) ^ 23 = 8388608 from rfl, show (2 : Nat) ^ 52 = 4503599627370496 from rfl]
    by_cases hs : m < 0
    · rw [if_pos hs, if_pos hs]
      have a1 : (2147483648 + ((127 + h) * 8388608 + r)) / 2147483648 = 1 := by omega
      have a2 : (2147483648 + ((127 + h) * 8388608 + r)) / 8388608 % 256 = 127 + h := by omega
      have a3 : (2147483648 + ((127 + h) * 8388608 + r)) % 8388608 = r := by omega
      rw [a1, a2, a3, if_neg (by omega), if_neg (by omega)]
      omega
    · rw [if_neg hs, if_neg hs]
      have a1 : (0 + ((127 + h) * 8388608 + r)) / 2147483648 = 0 := by omega
      have a2 : (0 + ((127 + h) * 8388608 + r)) / 8388608 % 256 = 127 + h := by omega
      have a3 : (0 + ((127 + h) * 8388608 + r)) % 8388608 = r := by omega
      rw [a1, a2, a3, if_neg (by omega), if_neg (by omega)]
      omega

theorem whole_dbl (k : Int) (h1 : -4503599627370496 ≤ k) (h2 : k ≤ 4503599627370496) : whole (dbl k) = k ∧ isWhole (dbl k) = true := by
  unfold dbl fbits
  by_cases h0 : k = 0
  · rw [if_pos h0, h0]; decide +kernel
  · rw [if_neg h0]
    have hu : 0 < k.natAbs := by omega
    have hh := high_small (u := k.natAbs) (k := 52) hu (by omega)
    obtain ⟨q, q1, q2, q3⟩ := mant_split (digits := 52) hu (by omega)
    rw [mag_split (by omega) q3]
    clear q3
    obtain ⟨d, hd⟩ : ∃ d, d = (if k < 0 then 9223372036854775808 else 0) + ((1023 + high k.natAbs) * 2 ^ 52 + q) := ⟨_, rfl⟩
    rw [← hd]
    have q1' : q < 4503599627370496 := q1
    rw [show (2 : Nat) ^ 52 = 4503599627370496 from rfl] at hd q2
    have d1 : d / 4503599627370496 % 2048 = 1023 + high k.natAbs := by split at hd <;> omega
    have d2 : d % 4503599627370496 = q := by split at hd <;> omega
    have d3 : ¬ d % 9223372036854775808 = 0 := by split at hd <;> omega
    have d4 : ¬ d = 14114281232179134464 := by split at hd <;> omega
    have d5 : 9223372036854775808 ≤ d ↔ k < 0 := by split at hd <;> omega
    have hU : wholeU d = k.natAbs := by
      unfold wholeU
      rw [d1, d2, show q + 4503599627370496 = k.natAbs * 2 ^ (52 - high k.natAbs) by omega]
      by_cases h52 : 1075 ≤ 1023 + high k.natAbs
      · rw [if_pos h52, show 52 - high k.natAbs = 0 by omega, show 1023 + high k.natAbs - 1075 = 0 by omega]; simp
      · rw [if_neg h52, show 1075 - (1023 + high k.natAbs) = 52 - high k.natAbs by omega]
        exact Nat.mul_div_cancel _ (Nat.pow_pos (by omega))
    have hI : isWhole d = true := by
      unfold isWhole
      rw [hU, d1, d2, decide_eq_false d3, decide_eq_false d4, decide_eq_true (show 1023 ≤ 1023 + high k.natAbs by omega), decide_eq_true (show 1023 + high k.natAbs ≤ 1085 by omega)]
      have : k.natAbs * 2 ^ (1075 - (1023 + high k.natAbs)) = q + 4503599627370496 := by
        rw [show 1075 - (1023 + high k.natAbs) = 52 - high k.natAbs by omega]; omega
      rw [decide_eq_true this]; simp
    refine ⟨?_, hI⟩
    unfold whole
    rw [if_neg d3, if_neg d4, if_pos hI, hU]
    by_cases hs : k < 0
    · rw [if_pos (d5.2 hs)]; omega
    · rw [if_neg (fun h => hs (d5.1 h))]; omega

theorem whole_not {d : Nat} (h : isWhole d = false) : whole d = 0 := by
  unfold whole
  by_cases h0 : d % 9223372036854775808 = 0
  · rw [if_pos h0]
  · rw [if_neg h0]
    by_cases h1 : d = 14114281232179134464
    · subst h1; unfold isWhole at h; simp at h
    · rw [if_neg h1, if_neg (by rw [h]; simp)]

theorem rnd_exact {m k : Nat} (hk : k ≤ 64) : rnd (m * 2 ^ k) k = m := by
  unfold rnd
  by_cases h0 : k = 0
  · subst h0; simp
  · rw [if_neg h0, if_neg (by omega), Nat.mul_mod_left, Nat.mul_div_cancel _ (Nat.pow_pos (by omega))]
    have : 0 < 2 ^ (k - 1) := Nat.pow_pos (by omega)
    rw [if_neg (by omega)]

theorem dbl_whole {d : Nat} (hd : d < 18446744073709551616) (h : isWhole d = true) : (dbl (whole d) = d ∨ d = 9223372036854775808) ∧ -9223372036854775808 ≤ whole d ∧ whole d ≤ 9223372036854775807 := by
  by_cases h0 : d % 9223372036854775808 = 0
  · have hw : whole d = 0 := by unfold whole; rw [if_pos h0]
    rw [hw]
    refine ⟨?_, by omega, by omega⟩
    by_cases hz : d = 0
    · left; rw [hz]; decide +kernel
    · right; omega
  · by_cases h1 : d = 14114281232179134464
    · subst h1
      have hw : whole 14114281232179134464 = -9223372036854775808 := by decide +kernel
      rw [hw]
      exact ⟨.inl dbl_min, by omega, by omega⟩
    · have hw : whole d = if 9223372036854775808 ≤ d then -(wholeU d : Int) else wholeU d := by
        unfold whole; rw [if_neg h0, if_neg h1, if_pos h]
      have hI := h
      unfold isWhole at hI
      rw [decide_eq_false h0, decide_eq_false h1] at hI
      simp only [Bool.false_or, Bool.and_eq_true, Bool.or_eq_true, decide_eq_true_eq] at hI
      obtain ⟨⟨e1, e2⟩, e3⟩ := hI
      obtain ⟨f, hf⟩ : ∃ f, f = d % 4503599627370496 := ⟨_, rfl⟩
      obtain ⟨ex, hex⟩ : ∃ ex, ex = d / 4503599627370496 % 2048 := ⟨_, rfl⟩
      have hU : wholeU d = if 1075 ≤ ex then (f + 4503599627370496) * 2 ^ (ex - 1075) else (f + 4503599627370496) / 2 ^ (1075 - ex) := by unfold wholeU; rw [hf, hex]
      rw [← hex, ← hf] at e3
      rw [← hex] at e1 e2
      have hdd : d = d / 9223372036854775808 * 9223372036854775808 + ex * 4503599627370496 + f := by omega
      have hf2 : f < 4503599627370496 := by omega
      generalize wholeU d = U at hw hU e3
      have hx : high U = ex - 1023 ∧ mant U 52 = f + 4503599627370496 ∧ U < 2 ^ 63 ∧ 0 < U := by
        by_cases h52 : 1075 ≤ ex
        · rw [if_pos h52] at hU
          have hp : 0 < 2 ^ (ex - 1075) := Nat.pow_pos (by omega)
          have hp2 : 2 ^ (ex - 1075) ≤ 2 ^ 10 := Nat.pow_le_pow_right (by omega) (by omega)
          have hhi : high U = ex - 1023 := by
            apply high_eq
            · rw [show ex - 1023 = 52 + (ex - 1075) by omega, Nat.pow_add, hU]
              exact Nat.mul_le_mul_right _ (by omega)
            · rw [show ex - 1023 + 1 = 53 + (ex - 1075) by omega, Nat.pow_add, hU]
              exact Nat.mul_lt_mul_of_pos_right (by omega) hp
          refine ⟨hhi, ?_, ?_, ?_⟩
          · unfold mant
            rw [hhi]
            by_cases he : ex - 1023 ≤ 52
            · rw [if_pos he, hU, show ex - 1075 = 0 by omega, show 52 - (ex - 1023) = 0 by omega]; simp
            · rw [if_neg he, hU, show ex - 1023 - 52 = ex - 1075 by omega]
              exact rnd_exact (by omega)
          · rw [hU]
            calc (f + 4503599627370496) * 2 ^ (ex - 1075) ≤ (f + 4503599627370496) * 2 ^ 10 := Nat.mul_le_mul_left _ hp2
              _ < 2 ^ 63 := by omega
          · rw [hU]; exact Nat.mul_pos (by omega) hp
        · have e4 : U * 2 ^ (1075 - ex) = f + 4503599627370496 := by rcases e3 with e3 | e3; omega; exact e3
          have hp : 0 < 2 ^ (1075 - ex) := Nat.pow_pos (by omega)
          have hhi : high U = ex - 1023 := by
            apply high_eq
            · apply Nat.le_of_mul_le_mul_right _ hp
              rw [← Nat.pow_add, show ex - 1023 + (1075 - ex) = 52 by omega, e4]; omega
            · apply Nat.lt_of_mul_lt_mul_right (a := 2 ^ (1075 - ex))
              rw [← Nat.pow_add, show ex - 1023 + 1 + (1075 - ex) = 53 by omega, e4]; omega
          have hU0 : 0 < U := by
            rcases Nat.eq_zero_or_pos U with hz | hz
            · rw [hz] at e4; omega
            · exact hz
          refine ⟨hhi, ?_, ?_, hU0⟩
          · unfold mant
            rw [hhi, if_pos (by omega), show 52 - (ex - 1023) = 1075 - ex by omega, e4]
          · have : U * 1 ≤ U * 2 ^ (1075 - ex) := Nat.mul_le_mul_left _ hp
            omega
      obtain ⟨x1, x2, x3, x4⟩ := hx
      have hm := mag_split (u := U) (bias := 1023) (digits := 52) (r := f) (by omega) (by rw [x2]; omega)
      rw [x1, show 1023 + (ex - 1023) = ex by omega, show (2 : Nat) ^ 52 = 4503599627370496 from rfl] at hm
      by_cases hs : 9223372036854775808 ≤ d
      · rw [if_pos hs] at hw
        rw [hw]
        refine ⟨.inl ?_, by omega, by omega⟩
        unfold dbl fbits
        rw [if_neg (by omega), if_pos (by omega), show (-(U : Int)).natAbs = U by omega, hm]
        omega
      · rw [if_neg hs] at hw
        rw [hw]
        refine ⟨.inl ?_, by omega, by omega⟩
        unfold dbl fbits
        rw [if_neg (by omega), if_neg (by omega), show ((U : Int)).natAbs = U by omega, hm]
        omega
end Go.Proofs.Ytaeecppabbjogaa.Pro
