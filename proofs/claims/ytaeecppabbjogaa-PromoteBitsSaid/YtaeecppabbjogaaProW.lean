/- The layer promote: bits widened, bits as a whole number, bits in order. -/
import Derived.Test.YtaeecppabbjogaaPro
namespace Go.Proofs.Ytaeecppabbjogaa.Pro
open Go.ChangeShapes Go.WideShapes Go.ChangeAt Go.RowKit
open Num Zg ZgW ProN

theorem or_add (i : Nat) (a b : Int) (ha : 0 ≤ a) (ha2 : a < 18446744073709551616) (hb : 0 ≤ b) (hi : i ≤ 64) (h1 : a % (2 ^ i : Nat) = 0) (h2 : b < (2 ^ i : Nat)) : bits BinOp.or IntKind.u64 a b = a + b := by
  obtain ⟨x, rfl⟩ := Int.eq_ofNat_of_zero_le ha
  obtain ⟨y, rfl⟩ := Int.eq_ofNat_of_zero_le hb
  have hp : 2 ^ i ≤ 2 ^ 64 := Nat.pow_le_pow_right (by omega) hi
  have h3 : x % 2 ^ i = 0 := by
    have : ((x % 2 ^ i : Nat) : Int) = 0 := by rw [Int.natCast_emod]; exact h1
    omega
  rw [u64_or_nat x y (by omega) (by omega), nat_join i x y h3 (by omega)]
  omega
theorem or3 (a b c : Int) (ha : 0 ≤ a) (ha2 : a < 18446744073709551616) (hb : 0 ≤ b) (hc : 0 ≤ c) (h1 : a % 9223372036854775808 = 0) (h2 : b % 4503599627370496 = 0) (h3 : b < 9223372036854775808) (h4 : c < 4503599627370496) :
    bits BinOp.or IntKind.u64 (bits BinOp.or IntKind.u64 a b) c = a + b + c := by
  rw [or_add 63 a b ha ha2 hb (by omega) (by simpa using h1) (by simpa using h3), or_add 52 (a + b) c (by omega) (by omega) hc (by omega) (by simp; omega) (by simpa using h4)]

def ord64 (d : Nat) : Nat := if 9223372036854775808 ≤ d then 18446744073709551615 - d else d + 9223372036854775808
def ord32 (d : Nat) : Nat := if 2147483648 ≤ d then 4294967295 - d else d + 2147483648
theorem u64_max : IntKind.u64.max = 18446744073709551615 := by simp [IntKind.max, IntKind.signed, IntKind.bits]
theorem u32_max : IntKind.u32.max = 4294967295 := by simp [IntKind.max, IntKind.signed, IntKind.bits]
theorem order64_any (d : Nat) (hd : d < 18446744073709551616) (w : World) :
    Calls Try.prog 24 #[.int .u64 d] w fun e w' => e = .returned (.int .u64 (ord64 d)) ∧ w = w' := by
  have hx : bits BinOp.xor IntKind.u64 IntKind.u64.max (d : Int) = ((18446744073709551615 - d : Nat) : Int) := by
    rw [u64_max, show (18446744073709551615 : Int) = ((18446744073709551615 : Nat) : Int) from rfl, u64_xor_nat _ _ (by omega) hd, Nat.xor_comm]
    have := not_nat 64 d (by omega)
    simp only [Nat.reducePow, Nat.reduceSub] at this
    rw [this]
  by_cases h : 9223372036854775808 ≤ d
  · have hO : ord64 d = 18446744073709551615 - d := by unfold ord64; rw [if_pos h]
    have t1 : ((d : Int) / 9223372036854775808 == 1) = true := by simp; omega
    generalize ord64 d = R at hO ⊢
    have HO := Lib.hid hO
    have HX := Lib.hid hx
    clear hO hx
    go_enter Try.func24, Try.ntmps24
    go_wp2
    go_ret
    exact ⟨ret_int (by rw [HO.out]; exact HX.out), rfl⟩
  · have hO : ord64 d = d + 9223372036854775808 := by unfold ord64; rw [if_neg h]
    have t1 : ((d : Int) / 9223372036854775808 == 1) = false := by simp; omega
    have hy : bits BinOp.or IntKind.u64 (d : Int) 9223372036854775808 = ((d + 9223372036854775808 : Nat) : Int) := by
      rw [show (9223372036854775808 : Int) = ((9223372036854775808 : Nat) : Int) from rfl, u64_or_nat _ _ hd (by omega), Nat.or_comm, nat_join 63 _ _ (by simp) (by omega)]
      omega
    generalize ord64 d = R at hO ⊢
    have HO := Lib.hid hO
    have HX := Lib.hid hy
    clear hO hx hy
    go_enter Try.func24, Try.ntmps24
    go_wp2
    go_ret
    exact ⟨ret_int (by rw [HO.out]; exact HX.out), rfl⟩
theorem order32_any (d : Nat) (hd : d < 4294967296) (w : World) :
    Calls Try.prog 26 #[.int .u32 d] w fun e w' => e = .returned (.int .u32 (ord32 d)) ∧ w = w' := by
  have hx : bits BinOp.xor IntKind.u32 IntKind.u32.max (d : Int) = ((4294967295 - d : Nat) : Int) := by
    rw [u32_max, show (4294967295 : Int) = ((4294967295 : Nat) : Int) from rfl, u32_xor_nat _ _ (by omega) hd, Nat.xor_comm]
    have := not_nat 32 d (by omega)
    simp only [Nat.reducePow, Nat.reduceSub] at this
    rw [this]
  by_cases h : 2147483648 ≤ d
  · have hO : ord32 d = 4294967295 - d := by unfold ord32; rw [if_pos h]
    have t1 : ((d : Int) / 2147483648 == 1) = true := by simp; omega
    generalize ord32 d = R at hO ⊢
    have HO := Lib.hid hO
    have HX := Lib.hid hx
    clear hO hx
    go_enter Try.func26, Try.ntmps26
    go_wp2
    go_ret
    exact ⟨ret_int (by rw [HO.out]; exact HX.out), rfl⟩
  · have hO : ord32 d = d + 2147483648 := by unfold ord32; rw [if_neg h]
    have t1 : ((d : Int) / 2147483648 == 1) = false := by simp; omega
    have hy : bits BinOp.or IntKind.u32 (d : Int) 2147483648 = ((d + 2147483648 : Nat) : Int) := by
      rw [show (2147483648 : Int) = ((2147483648 : Nat) : Int) from rfl, u32_or_nat _ _ hd (by omega), Nat.or_comm, nat_join 31 _ _ (by simp) (by omega)]
      omega
    generalize ord32 d = R at hO ⊢
    have HO := Lib.hid hO
    have HX := Lib.hid hy
    clear hO hx hy
    go_enter Try.func26, Try.ntmps26
    go_wp2
    go_ret
    exact ⟨ret_int (by rw [HO.out]; exact HX.out), rfl⟩

/-- the bits, of 64, of a number of 32 -/
def wide (f : Nat) : Nat :=
  f / 2147483648 * 9223372036854775808 +
    (if f / 8388608 % 256 = 255 then 9218868437227405312 + f % 8388608 * 536870912
     else if f / 8388608 % 256 = 0 then (if f % 8388608 = 0 then 0 else (high (f % 8388608) + 874) * 4503599627370496 + f % 8388608 * 2 ^ (23 - high (f % 8388608)) % 8388608 * 536870912)
     else (f / 8388608 % 256 + 896) * 4503599627370496 + f % 8388608 * 536870912)

theorem wide_any (f : Nat) (hf : f < 4294967296) (w : World) :
    Calls Try.prog 28 #[.int .u32 f] w fun e w' => e = .returned (.int .u64 (wide f)) ∧ w = w' := by
  have E1 : bits BinOp.and IntKind.u32 ((f : Int) / 8388608) 255 = ((f / 8388608 % 256 : Nat) : Int) := by
    rw [show (f : Int) / 8388608 = ((f / 8388608 : Nat) : Int) by omega, show (255 : Int) = ((255 : Nat) : Int) from rfl, u32_and_nat _ _ (by omega) (by omega), nat_mask8]
  have E2 : bits BinOp.and IntKind.u32 (f : Int) 8388607 = ((f % 8388608 : Nat) : Int) := by
    rw [show (8388607 : Int) = ((8388607 : Nat) : Int) from rfl, u32_and_nat _ _ (by omega) (by omega), nat_mask23]
  have hs : f / 2147483648 ≤ 1 := by omega
  have hWd : wide f = f / 2147483648 * 9223372036854775808 +
    (if f / 8388608 % 256 = 255 then 9218868437227405312 + f % 8388608 * 536870912
     else if f / 8388608 % 256 = 0 then (if f % 8388608 = 0 then 0 else (high (f % 8388608) + 874) * 4503599627370496 + f % 8388608 * 2 ^ (23 - high (f % 8388608)) % 8388608 * 536870912)
     else (f / 8388608 % 256 + 896) * 4503599627370496 + f % 8388608 * 536870912) := rfl
  have he : f / 8388608 % 256 ≤ 255 := by omega
  have hm : f % 8388608 ≤ 8388607 := by omega
  generalize wide f = R at hWd ⊢
  generalize f / 8388608 % 256 = ex at E1 hWd he
  generalize f % 8388608 = m at E2 hWd hm
  by_cases h255 : ex = 255
  · rw [if_pos h255] at hWd
    have HW := Lib.hid hWd
    subst h255
    clear hWd
    have hor := or3 ((f : Int) / 2147483648 * 9223372036854775808) 9218868437227405312 ((m : Int) * 536870912) (by omega) (by omega) (by omega) (by omega) (by omega) (by omega) (by omega) (by omega)
    have HOR := Lib.hid hor
    clear hor
    go_enter Try.func28, Try.ntmps28
    go_wp2_with fail
    go_ret
    exact ⟨ret_int (by rw [HW.out]; refine Eq.trans HOR.out ?_; omega), rfl⟩
  · rw [if_neg h255] at hWd
    by_cases h0 : ex = 0
    · rw [if_pos h0] at hWd
      subst h0
      by_cases hm0 : m = 0
      · rw [if_pos hm0] at hWd
        have HW := Lib.hid hWd
        subst hm0
        clear hWd
        go_enter Try.func28, Try.ntmps28
        go_wp2_with fail
        go_ret
        exact ⟨ret_int (by rw [HW.out]; omega), rfl⟩
      · rw [if_neg hm0] at hWd
        have HW := Lib.hid hWd
        clear hWd
        have tm : ((m : Int) == 0) = false := by simp; omega
        have hh := high_small (u := m) (k := 22) (by omega) (by omega)
        have hl := high_lt m
        have hN := Lib.hid (nbits_high (u := m) (by omega))
        have hm2 : m * 2 ^ (23 - high m) < 2 ^ 24 := by
          calc m * 2 ^ (23 - high m) < 2 ^ (high m + 1) * 2 ^ (23 - high m) := Nat.mul_lt_mul_of_pos_right hl (Nat.pow_pos (by omega))
            _ = 2 ^ 24 := by rw [← Nat.pow_add]; congr 1; omega
        obtain ⟨k, hk⟩ : ∃ k, k = 23 - high m := ⟨_, rfl⟩
        have ek : (23 : Int) - (high m : Int) = (k : Int) := by omega
        have e3 : IntKind.u64.wrap ((m : Int) * 2 ^ k) = ((m * 2 ^ k : Nat) : Int) := by
          rw [wrap_u64, show ((2 : Int) ^ k) = ((2 ^ k : Nat) : Int) by simp, ← Int.natCast_mul, hk]
          omega
        have e4 : bits BinOp.and IntKind.u64 ((m * 2 ^ k : Nat) : Int) 8388607 = ((m * 2 ^ k % 8388608 : Nat) : Int) := by
          rw [show (8388607 : Int) = ((8388607 : Nat) : Int) from rfl, u64_and_nat _ _ (by rw [hk]; omega) (by omega), nat_mask23]
        rw [← hk] at HW
        have hY : m * 2 ^ k % 8388608 < 8388608 := by omega
        generalize m * 2 ^ k = V at e3 e4 HW hY
        generalize V % 8388608 = Y at e4 HW hY
        clear hm2 hl
        have hor := or3 ((f : Int) / 2147483648 * 9223372036854775808) (((high m : Int) + 874) * 4503599627370496) ((Y : Int) * 536870912) (by omega) (by omega) (by omega) (by omega) (by omega) (by omega) (by omega) (by omega)
        have HOR := Lib.hid hor
        have HK := Lib.hid hk
        clear hor hk
        go_enter Try.func28, Try.ntmps28
        go_wp2_with fail
        refine (bits_any m (by omega) _).mono ?_
        rintro e w' ⟨rfl, rfl⟩
        rw [hN.out]
        go_wp2_with fail
        go_ret
        refine ⟨ret_int ?_, rfl⟩
        rw [HW.out, show (high m : Int) - 23 + 1 - 127 + 1023 = (high m : Int) + 874 by omega]
        refine Eq.trans HOR.out ?_
        omega
    · rw [if_neg h0] at hWd
      have HW := Lib.hid hWd
      clear hWd
      have t1 : ((ex : Int) == 255) = false := by simp; omega
      have t2 : ((ex : Int) == 0) = false := by simp; omega
      have hor := or3 ((f : Int) / 2147483648 * 9223372036854775808) (((ex : Int) + 896) * 4503599627370496) ((m : Int) * 536870912) (by omega) (by omega) (by omega) (by omega) (by omega) (by omega) (by omega) (by omega)
      have HOR := Lib.hid hor
      clear hor
      go_enter Try.func28, Try.ntmps28
      go_wp2_with fail
      go_ret
      refine ⟨ret_int ?_, rfl⟩
      rw [HW.out, show (ex : Int) - 127 + 1023 = (ex : Int) + 896 by omega]
      refine Eq.trans HOR.out ?_
      omega

/-- the whole number of bits -/
def wholeU (d : Nat) : Nat :=
  if 1075 ≤ d / 4503599627370496 % 2048 then (d % 4503599627370496 + 4503599627370496) * 2 ^ (d / 4503599627370496 % 2048 - 1075)
  else (d % 4503599627370496 + 4503599627370496) / 2 ^ (1075 - d / 4503599627370496 % 2048)
def isWhole (d : Nat) : Bool :=
  decide (d % 9223372036854775808 = 0) || decide (d = 14114281232179134464) ||
    (decide (1023 ≤ d / 4503599627370496 % 2048) && decide (d / 4503599627370496 % 2048 ≤ 1085) &&
      (decide (1075 ≤ d / 4503599627370496 % 2048) || decide (wholeU d * 2 ^ (1075 - d / 4503599627370496 % 2048) = d % 4503599627370496 + 4503599627370496)))
def whole (d : Nat) : Int :=
  if d % 9223372036854775808 = 0 then 0 else if d = 14114281232179134464 then -9223372036854775808 else if isWhole d = true then (if 9223372036854775808 ≤ d then -(wholeU d : Int) else wholeU d) else 0

theorem dbl_min : dbl (-9223372036854775808) = 14114281232179134464 := by decide +kernel

theorem whole_zero (d : Nat) (hd : d < 18446744073709551616) (h0 : d % 9223372036854775808 = 0) (w : World) :
    Calls Try.prog 29 #[.int .u64 d] w fun e w' => e = .returned (.tuple #[.int .i64 0, .bool true]) ∧ Grown w w' := by
  have t1 : (IntKind.u64.wrap ((d : Int) * 2) == 0) = true := by rw [wrap_u64]; simp; omega
  go_enter Try.func29, Try.ntmps29
  go_wp2_with fail
  go_ret2
  exact ⟨rfl, Grown.refl _⟩
theorem whole_min (w : World) :
    Calls Try.prog 29 #[.int .u64 14114281232179134464] w fun e w' => e = .returned (.tuple #[.int .i64 (-9223372036854775808), .bool true]) ∧ Grown w w' := by
  have t1 : (IntKind.u64.wrap (14114281232179134464 * 2) == 0) = false := by rw [wrap_u64]; decide +kernel
  have hd := Lib.hid dbl_min
  go_enter Try.func29, Try.ntmps29
  go_wp2_with fail
  refine (double_any (-9223372036854775808) (by omega) (by omega) _).mono ?_
  rintro e w' ⟨rfl, hg⟩
  rw [hd.out]
  go_wp2_with fail
  go_ret2
  exact ⟨rfl, hg⟩
theorem whole_rest (d : Nat) (hd : d < 18446744073709551616) (h0 : ¬ d % 9223372036854775808 = 0) (h1 : ¬ d = 14114281232179134464) (w : World) :
    Calls Try.prog 29 #[.int .u64 d] w fun e w' => e = .returned (.tuple #[.int .i64 (whole d), .bool (isWhole d)]) ∧ Grown w w' := by
  have t1 : (IntKind.u64.wrap ((d : Int) * 2) == 0) = false := by rw [wrap_u64]; simp; omega
  have t2 : ((d : Int) == 14114281232179134464) = false := by simp; omega
  have E1 : bits BinOp.and IntKind.u64 ((d : Int) / 4503599627370496) 2047 = ((d / 4503599627370496 % 2048 : Nat) : Int) := by
    rw [show (d : Int) / 4503599627370496 = ((d / 4503599627370496 : Nat) : Int) by omega, show (2047 : Int) = ((2047 : Nat) : Int) from rfl, u64_and_nat _ _ (by omega) (by omega), nat_mask11]
  have E2 : bits BinOp.and IntKind.u64 (d : Int) 4503599627370495 = ((d % 4503599627370496 : Nat) : Int) := by
    rw [show (4503599627370495 : Int) = ((4503599627370495 : Nat) : Int) from rfl, u64_and_nat _ _ (by omega) (by omega), nat_mask52]
  have E3 : bits BinOp.or IntKind.u64 ((d % 4503599627370496 : Nat) : Int) 4503599627370496 = ((d % 4503599627370496 + 4503599627370496 : Nat) : Int) := by
    rw [show (4503599627370496 : Int) = ((4503599627370496 : Nat) : Int) from rfl, u64_or_nat _ _ (by omega) (by omega), Nat.or_comm, nat_join 52 _ _ (by simp) (by omega)]
    omega
  have hW : whole d = if isWhole d = true then (if 9223372036854775808 ≤ d then -(wholeU d : Int) else wholeU d) else 0 := by
    unfold whole; rw [if_neg h0, if_neg h1]
  have hI : isWhole d = (decide (1023 ≤ d / 4503599627370496 % 2048) && decide (d / 4503599627370496 % 2048 ≤ 1085) &&
      (decide (1075 ≤ d / 4503599627370496 % 2048) || decide (wholeU d * 2 ^ (1075 - d / 4503599627370496 % 2048) = d % 4503599627370496 + 4503599627370496))) := by
    unfold isWhole; rw [decide_eq_false h0, decide_eq_false h1]; rfl
  have hU : wholeU d = if 1075 ≤ d / 4503599627370496 % 2048 then (d % 4503599627370496 + 4503599627370496) * 2 ^ (d / 4503599627370496 % 2048 - 1075)
    else (d % 4503599627370496 + 4503599627370496) / 2 ^ (1075 - d / 4503599627370496 % 2048) := rfl
  have hm1 : d % 4503599627370496 + 4503599627370496 < 2 ^ 53 := by omega
  have he : d / 4503599627370496 % 2048 ≤ 2047 := by omega
  generalize whole d = R at hW ⊢
  generalize isWhole d = B at hW hI ⊢
  generalize wholeU d = U at hW hI hU
  generalize d / 4503599627370496 % 2048 = ex at E1 hI hU he
  generalize d % 4503599627370496 + 4503599627370496 = m at E3 hI hU hm1
  generalize d % 4503599627370496 = m0 at E2 E3
  have hdm := Lib.hid dbl_min
  by_cases hout : ex < 1023 ∨ 1085 < ex
  · have hB : B = false := by
      rw [hI]; rcases hout with h | h
      · rw [decide_eq_false (show ¬ 1023 ≤ ex by omega)]; rfl
      · rw [decide_eq_false (show ¬ ex ≤ 1085 by omega)]; simp
    rw [hB, if_neg (by simp)] at hW
    subst hB hW
    clear hI hU
    rcases hout with h | h
    all_goals
      go_enter Try.func29, Try.ntmps29
      go_wp2_with fail
      refine (double_any (-9223372036854775808) (by omega) (by omega) _).mono ?_
      rintro e w' ⟨rfl, hg⟩
      rw [hdm.out]
      go_wp2_with fail
      go_ret2
      exact ⟨rfl, hg⟩
  · have hsg : ((d : Int) / 9223372036854775808 == 1) = true ∧ 9223372036854775808 ≤ d ∨ ((d : Int) / 9223372036854775808 == 1) = false ∧ ¬ 9223372036854775808 ≤ d := by
      by_cases h : 9223372036854775808 ≤ d
      · left; exact ⟨by simp; omega, h⟩
      · right; exact ⟨by simp; omega, h⟩
    by_cases h52 : 1075 ≤ ex
    · have hB : B = true := by
        rw [hI, decide_eq_true (show 1023 ≤ ex by omega), decide_eq_true (show ex ≤ 1085 by omega), decide_eq_true h52]; rfl
      rw [if_pos h52] at hU
      rw [hB, if_pos rfl] at hW
      subst hB
      clear hI
      obtain ⟨k, hk⟩ : ∃ k, k = ex - 1075 := ⟨_, rfl⟩
      rw [← hk] at hU
      have ek : ((ex : Int) - 1023 - 52).toNat = k := by omega
      have hle : m * 2 ^ k < 2 ^ 63 := by
        have : m * 2 ^ k < 2 ^ 53 * 2 ^ k := Nat.mul_lt_mul_of_pos_right hm1 (Nat.pow_pos (by omega))
        have h2 : 2 ^ 53 * 2 ^ k ≤ 2 ^ 53 * 2 ^ 10 := Nat.mul_le_mul_left _ (Nat.pow_le_pow_right (by omega) (by omega))
        omega
      have e3 : IntKind.u64.wrap ((m : Int) * 2 ^ k) = (U : Int) := by
        rw [wrap_u64, show ((2 : Int) ^ k) = ((2 ^ k : Nat) : Int) by simp, ← Int.natCast_mul, ← hU]
        rw [← hU] at hle
        omega
      rw [← hU] at hle
      clear hU hk
      rcases hsg with ⟨s1, s2⟩ | ⟨s1, s2⟩
      · rw [if_pos s2] at hW
        have HW := Lib.hid hW
        clear hW
        go_enter Try.func29, Try.ntmps29
        go_wp2_with fail
        refine (double_any (-9223372036854775808) (by omega) (by omega) _).mono ?_
        rintro e w' ⟨rfl, hg⟩
        rw [hdm.out]
        go_wp2_with fail
        go_ret2
        rw [HW.out]
        exact ⟨rfl, hg⟩
      · rw [if_neg s2] at hW
        have HW := Lib.hid hW
        clear hW
        go_enter Try.func29, Try.ntmps29
        go_wp2_with fail
        refine (double_any (-9223372036854775808) (by omega) (by omega) _).mono ?_
        rintro e w' ⟨rfl, hg⟩
        rw [hdm.out]
        go_wp2_with fail
        go_ret2
        rw [HW.out]
        exact ⟨rfl, hg⟩
    · have hB : B = decide (U * 2 ^ (1075 - ex) = m) := by
        rw [hI, decide_eq_true (show 1023 ≤ ex by omega), decide_eq_true (show ex ≤ 1085 by omega), decide_eq_false h52]; rfl
      rw [if_neg h52] at hU
      clear hI
      obtain ⟨k, hk⟩ : ∃ k, k = 1075 - ex := ⟨_, rfl⟩
      rw [← hk] at hU hB
      have ek : ((52 : Int) - ((ex : Int) - 1023)).toNat = k := by omega
      have e4 : (m : Int) / 2 ^ k = (U : Int) := by
        rw [show ((2 : Int) ^ k) = ((2 ^ k : Nat) : Int) by simp, ← Int.natCast_ediv, ← hU]
      have hle : U * 2 ^ k ≤ m := by rw [hU]; exact Nat.div_mul_le_self _ _
      have hUl : U ≤ m := by rw [hU]; exact Nat.div_le_self _ _
      have e3 : IntKind.u64.wrap ((U : Int) * 2 ^ k) = ((U * 2 ^ k : Nat) : Int) := by
        rw [wrap_u64, show ((2 : Int) ^ k) = ((2 ^ k : Nat) : Int) by simp, ← Int.natCast_mul]
        omega
      clear hU hk
      generalize U * 2 ^ k = V at hB e3 hle
      have hk2 : (ex : Int) - 1023 < 52 := by omega
      by_cases hV : V = m
      · have hB2 : B = true := by rw [hB]; simp [hV]
        rw [hB2, if_pos rfl] at hW
        subst hB2
        clear hB
        have tv : ((V : Int) != (m : Int)) = false := by simp [hV]
        clear hV
        rcases hsg with ⟨s1, s2⟩ | ⟨s1, s2⟩
        · rw [if_pos s2] at hW
          have HW := Lib.hid hW
          clear hW
          go_enter Try.func29, Try.ntmps29
          go_wp2_with fail
          refine (double_any (-9223372036854775808) (by omega) (by omega) _).mono ?_
          rintro e w' ⟨rfl, hg⟩
          rw [hdm.out]
          go_wp2_with fail
          go_ret2
          rw [HW.out]
          exact ⟨rfl, hg⟩
        · rw [if_neg s2] at hW
          have HW := Lib.hid hW
          clear hW
          go_enter Try.func29, Try.ntmps29
          go_wp2_with fail
          refine (double_any (-9223372036854775808) (by omega) (by omega) _).mono ?_
          rintro e w' ⟨rfl, hg⟩
          rw [hdm.out]
          go_wp2_with fail
          go_ret2
          rw [HW.out]
          exact ⟨rfl, hg⟩
      · have hB2 : B = false := by rw [hB]; simp [hV]
        rw [hB2, if_neg (by simp)] at hW
        subst hB2 hW
        clear hB
        have tv : ((V : Int) != (m : Int)) = true := by simp; omega
        clear hV
        go_enter Try.func29, Try.ntmps29
        go_wp2_with fail
        refine (double_any (-9223372036854775808) (by omega) (by omega) _).mono ?_
        rintro e w' ⟨rfl, hg⟩
        rw [hdm.out]
        go_wp2_with fail
        go_ret2
        exact ⟨rfl, hg⟩
theorem whole_any (d : Nat) (hd : d < 18446744073709551616) (w : World) :
    Calls Try.prog 29 #[.int .u64 d] w fun e w' => e = .returned (.tuple #[.int .i64 (whole d), .bool (isWhole d)]) ∧ Grown w w' := by
  by_cases h0 : d % 9223372036854775808 = 0
  · have h1 : whole d = 0 := by unfold whole; rw [if_pos h0]
    have h2 : isWhole d = true := by unfold isWhole; rw [decide_eq_true h0]; rfl
    rw [h1, h2]
    exact whole_zero d hd h0 w
  · by_cases h1 : d = 14114281232179134464
    · subst h1
      have h1 : whole 14114281232179134464 = -9223372036854775808 := by unfold whole; rw [if_neg h0, if_pos rfl]
      have h2 : isWhole 14114281232179134464 = true := by unfold isWhole; simp
      rw [h1, h2]
      exact whole_min w
    · exact whole_rest d hd h0 h1 w
end Go.Proofs.Ytaeecppabbjogaa.Pro
