/- The layer promote: a number of 32 bits as one of 64, in the model. -/
import Derived.Test.YtaeecppabbjogaaProS
import Derived.Test.YtaeecppabbjogaaProR
namespace Go.Proofs.Ytaeecppabbjogaa.Pro
open Go.ChangeShapes Go.WideShapes Go.ChangeAt Go.RowKit
open Num Zg ZgW ProN

/-- what the bits are without the sign -/
def wideG (f : Nat) : Nat :=
  if f / 8388608 % 256 = 0 then (if f % 8388608 = 0 then 0 else (high (f % 8388608) + 874) * 4503599627370496 + f % 8388608 * 2 ^ (23 - high (f % 8388608)) % 8388608 * 536870912)
  else (f / 8388608 % 256 + 896) * 4503599627370496 + f % 8388608 * 536870912
theorem wide_G {f : Nat} (h : f / 8388608 % 256 ≠ 255) : wide f = f / 2147483648 * 9223372036854775808 + wideG f := by
  unfold wide wideG
  rw [if_neg h]
theorem wideG_lt {f : Nat} (_h : f / 8388608 % 256 ≠ 255) : wideG f < 1152 * 4503599627370496 := by
  unfold wideG
  by_cases h0 : f / 8388608 % 256 = 0
  · rw [if_pos h0]
    by_cases h1 : f % 8388608 = 0
    · rw [if_pos h1]; omega
    · rw [if_neg h1]
      have hh : high (f % 8388608) ≤ 22 := high_small (by omega) (by omega)
      omega
  · rw [if_neg h0]; omega

theorem wide_nearest {f : Nat} (hf : f < 4294967296) (h : f / 8388608 % 256 ≠ 255) : ∃ m p, Ieee.single.read f = .number (decide (2147483648 ≤ f)) m p ∧ Ieee.double.nearest (decide (2147483648 ≤ f)) m p = wide f := by
  obtain ⟨r0, r1⟩ := read32 hf
  have hsign : (if decide (2147483648 ≤ f) = true then 9223372036854775808 else 0) = f / 2147483648 * 9223372036854775808 := by
    by_cases hs : 2147483648 ≤ f
    · rw [if_pos (decide_eq_true hs)]; omega
    · rw [if_neg (by simpa using hs)]; omega
  rw [wide_G h]
  by_cases h0 : f / 8388608 % 256 = 0
  · refine ⟨_, _, r0 h0, ?_⟩
    unfold fr32
    by_cases h1 : f % 8388608 = 0
    · rw [h1, nearest_zero, hsign]
      unfold wideG; rw [if_pos h0, if_pos h1, Nat.add_zero]
    · have hh : high (f % 8388608) ≤ 22 := high_small (by omega) (by omega)
      rw [nearest_at _ _ _ (by omega) (by omega) (by omega) (by omega), hsign]
      unfold wideG; rw [if_pos h0, if_neg h1]
      obtain ⟨r, hr1, hr2, hr3⟩ := mant_split (u := f % 8388608) (digits := 23) (by omega) (by omega)
      have hm : mant (f % 8388608) 52 = f % 8388608 * 2 ^ (23 - high (f % 8388608)) * 536870912 := by
        unfold mant
        rw [if_pos (by omega), show 52 - high (f % 8388608) = (23 - high (f % 8388608)) + 29 by omega, Nat.pow_add, ← Nat.mul_assoc]
      rw [hm, hr2, show ((-149 : Int) + (high (f % 8388608) : Int) + 1022).toNat = high (f % 8388608) + 873 by omega]
      have e : (2 : Nat) ^ 23 = 8388608 := by decide +kernel
      rw [e] at hr1 ⊢
      omega
  · refine ⟨_, _, r1 (by unfold ex32; omega) (by unfold ex32; omega), ?_⟩
    unfold fr32 ex32
    have hp1 : (2 : Nat) ^ 23 = 8388608 := by decide +kernel
    have hp2 : (2 : Nat) ^ (23 + 1) = 16777216 := by decide +kernel
    have hh : high (8388608 + f % 8388608) = 23 := by
      refine high_eq ?_ ?_
      · rw [hp1]; omega
      · rw [hp2]; omega
    rw [nearest_at _ _ _ (by omega) (by rw [hh]; omega) (by rw [hh]; omega) (by rw [hh]; omega), hsign]
    unfold wideG; rw [if_neg h0]
    have hm : mant (8388608 + f % 8388608) 52 = (8388608 + f % 8388608) * 536870912 := by
      unfold mant
      rw [if_pos (by rw [hh]; omega), hh]
    rw [hm, hh, show (((f / 8388608 % 256 : Nat) : Int) - 150 + ((23 : Nat) : Int) + 1022).toNat = f / 8388608 % 256 + 895 by omega]
    omega

theorem wide_conv {f : Nat} (hf : f < 4294967296) (h : f / 8388608 % 256 ≠ 255) : floatToFloatBits .f32 f .f64 = some (wide f) := by
  obtain ⟨m, p, h1, h2⟩ := wide_nearest hf h
  have hw := wide_G h
  have hl := wideG_lt h
  have hlt : wide f < 18446744073709551616 := by omega
  have hex : ex (wide f) ≤ 2046 := by unfold ex; omega
  unfold floatToFloatBits
  rw [if_neg (by decide)]
  have e1 : FloatKind.f32.decode f = .number (decide (2147483648 ≤ f)) m p := h1
  rw [e1]
  have e2 : FloatKind.f64.encode (.number (decide (2147483648 ≤ f)) m p) = wide f := h2
  simp only [e2]
  have e3 : (FloatKind.f64.decode (wide f)).isInfinity = false := by
    show (Ieee.double.read (wide f)).isInfinity = false
    obtain ⟨q0, q1, _, _⟩ := read64 hlt
    by_cases hz : ex (wide f) = 0
    · rw [q0 hz]; rfl
    · rw [q1 (by omega) hex]; rfl
  rw [e3]; rfl

theorem refwide_any (f : Nat) (hf : f < 4294967296) (w : World) :
    Calls Try.prog 33 #[.int .u32 f] w fun e w' => e = .returned (.int .u64 (wide f)) ∧ w = w' := by
  by_cases h : f / 8388608 % 256 = 255
  · have hw : wide f = f / 2147483648 * 9223372036854775808 + (9218868437227405312 + f % 8388608 * 536870912) := by
      unfold wide; rw [if_pos h]
    have HW := Lib.hid hw
    have hi : (f : Int) / 8388608 % 256 = 255 := by omega
    clear hw h
    go_enter Try.func33, Try.ntmps33
    go_wp2
    go_ret
    exact ⟨ret_int (by rw [HW.out]; omega), rfl⟩
  · have hx := x32from f
    have hy := x64bits (wide f)
    have hc := fun w1 => run_convert_float_float (P := Try.prog) w1 50 48 .f32 .f64 f (wide f) (by kernel_rfl) (by kernel_rfl) (wide_conv hf h)
    have hi : ((f : Int) / 8388608 % 256 == 255) = false := by simp; omega
    clear h
    go_enter Try.func33, Try.ntmps33
    go_wp2
    go_ret
    exact ⟨rfl, rfl⟩
end Go.Proofs.Ytaeecppabbjogaa.Pro
