/- The layer promote: the chapter's examples; plain laws of order and exactness. -/
import Derived.Test.YtaeecppabbjogaaProW
namespace Go.Proofs.Ytaeecppabbjogaa.Pro
open Go.ChangeShapes Go.WideShapes Go.ChangeAt Go.RowKit
open Num Zg ZgW ProN

theorem works_any (w : World) :
    Calls Try.prog 23 #[] w fun e w' => e = .returned (.bool true) ∧ Grown w w' := by
  have e1 : whole 13835058055282163712 = -2 := by decide +kernel
  have e2 : isWhole 13835058055282163712 = true := by decide +kernel
  have e3 : dbl 1 = 4607182418800017408 := by decide +kernel
  have e4 : flt 16777217 = 1266679808 := by decide +kernel
  have e5 : wide 1069547520 = 4609434218613702656 := by decide +kernel
  have e6 : rnd 6 2 = 2 := by decide +kernel
  have E1 := Lib.hid e1
  have E2 := Lib.hid e2
  have E3 := Lib.hid e3
  have E4 := Lib.hid e4
  have E5 := Lib.hid e5
  have E6 := Lib.hid e6
  clear e1 e2 e3 e4 e5 e6
  go_enter Try.func23, Try.ntmps23
  go_wp2_with fail
  refine (whole_any 13835058055282163712 (by omega) _).mono ?_
  rintro e w1 ⟨rfl, hg1⟩
  rw [E1.out, E2.out]
  go_wp2_with fail
  refine (double_any 1 (by omega) (by omega) _).mono ?_
  rintro e w2 ⟨rfl, hg2⟩
  rw [E3.out]
  go_wp2_with fail
  refine (float_any 16777217 (by omega) (by omega) _).mono ?_
  rintro e w3 ⟨rfl, hg3⟩
  rw [E4.out]
  go_wp2_with fail
  refine (wide_any 1069547520 (by omega) _).mono ?_
  rintro e w4 ⟨rfl, rfl⟩
  rw [E5.out]
  go_wp2_with fail
  refine (round_any 6 2 (by omega) _).mono ?_
  rintro e w5 ⟨rfl, rfl⟩
  rw [E6.out]
  go_wp2_with fail
  go_ret
  exact ⟨rfl, grown_trans (grown_trans hg1 hg2) hg3⟩

/-! ### order -/
theorem dbl_order {n m : Int} (h : n ≤ m) (h1 : -9223372036854775808 ≤ n) (h2 : m ≤ 9223372036854775807) : ord64 (dbl n) ≤ ord64 (dbl m) := by
  have key : ∀ k : Int, -9223372036854775808 ≤ k → k ≤ 9223372036854775807 → ord64 (dbl k) = if k = 0 then 9223372036854775808 else if k < 0 then 9223372036854775807 - mag k.natAbs 1023 52 else mag k.natAbs 1023 52 + 9223372036854775808 := by
    intro k k1 k2
    unfold dbl fbits
    by_cases k0 : k = 0
    · rw [if_pos k0, if_pos k0]; rfl
    · rw [if_neg k0, if_neg k0]
      have hl := mag_lt (u := k.natAbs) (bias := 1023) (digits := 52) (high_small (k := 63) (by omega) (by omega)) (by omega) (by omega)
      unfold ord64
      by_cases kn : k < 0
      · rw [if_pos kn, if_pos kn, if_pos (by omega)]; omega
      · rw [if_neg kn, if_neg kn, if_neg (by omega)]; omega
  rw [key n h1 (by omega), key m (by omega) h2]
  by_cases n0 : n = 0
  · rw [if_pos n0]
    by_cases m0 : m = 0
    · rw [if_pos m0]; omega
    · rw [if_neg m0, if_neg (by omega)]; omega
  · rw [if_neg n0]
    by_cases nn : n < 0
    · rw [if_pos nn]
      by_cases m0 : m = 0
      · rw [if_pos m0]; omega
      · rw [if_neg m0]
        by_cases mn : m < 0
        · rw [if_pos mn]
          have := mag_mono (u := m.natAbs) (v := n.natAbs) (bias := 1023) (digits := 52) (by omega) (by omega) (high_small (k := 63) (by omega) (by omega)) (by omega)
          omega
        · rw [if_neg mn]; omega
    · rw [if_neg nn, if_neg (by omega), if_neg (by omega)]
      have := mag_mono (u := n.natAbs) (v := m.natAbs) (bias := 1023) (digits := 52) (by omega) (by omega) (high_small (k := 63) (by omega) (by omega)) (by omega)
      omega
theorem flt_order {n m : Int} (h : n ≤ m) (h1 : -9223372036854775808 ≤ n) (h2 : m ≤ 9223372036854775807) : ord32 (flt n) ≤ ord32 (flt m) := by
  have key : ∀ k : Int, -9223372036854775808 ≤ k → k ≤ 9223372036854775807 → ord32 (flt k) = if k = 0 then 2147483648 else if k < 0 then 2147483647 - mag k.natAbs 127 23 else mag k.natAbs 127 23 + 2147483648 := by
    intro k k1 k2
    unfold flt fbits
    by_cases k0 : k = 0
    · rw [if_pos k0, if_pos k0]; rfl
    · rw [if_neg k0, if_neg k0]
      have hl := mag_lt32 (u := k.natAbs) (high_small (k := 63) (by omega) (by omega))
      unfold ord32
      by_cases kn : k < 0
      · rw [if_pos kn, if_pos kn, if_pos (by omega)]; omega
      · rw [if_neg kn, if_neg kn, if_neg (by omega)]; omega
  rw [key n h1 (by omega), key m (by omega) h2]
  by_cases n0 : n = 0
  · rw [if_pos n0]
    by_cases m0 : m = 0
    · rw [if_pos m0]; omega
    · rw [if_neg m0, if_neg (by omega)]; omega
  · rw [if_neg n0]
    by_cases nn : n < 0
    · rw [if_pos nn]
      by_cases m0 : m = 0
      · rw [if_pos m0]; omega
      · rw [if_neg m0]
        by_cases mn : m < 0
        · rw [if_pos mn]
          have := mag_mono (u := m.natAbs) (v := n.natAbs) (bias := 127) (digits := 23) (by omega) (by omega) (high_small (k := 63) (by omega) (by omega)) (by omega)
          omega
        · rw [if_neg mn]; omega
    · rw [if_neg nn, if_neg (by omega), if_neg (by omega)]
      have := mag_mono (u := n.natAbs) (v := m.natAbs) (bias := 127) (digits := 23) (by omega) (by omega) (high_small (k := 63) (by omega) (by omega)) (by omega)
      omega
end Go.Proofs.Ytaeecppabbjogaa.Pro
