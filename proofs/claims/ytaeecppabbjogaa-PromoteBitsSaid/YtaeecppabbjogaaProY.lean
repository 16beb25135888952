/- The layer promote: the document's Whole. -/
import Derived.Test.YtaeecppabbjogaaProV
namespace Go.Proofs.Ytaeecppabbjogaa.Pro
open Go.ChangeShapes Go.WideShapes Go.ChangeAt Go.RowKit
open Num Zg ZgW ProN

theorem xtrunc (d : Nat) (s : Bool) (m : Nat) (i : Int) (h : Ieee.double.read d = .number s m i) (w : World) :
    (callFunc 43 #[.float .f64 d]).run Try.prog w = .ok (.value (.float .f64 (Ieee.double.write (.number s (cutM m i) 0)))) w := by
  rw [run_callFunc_extern (e := Extern.MathFloor.toIntegral "math.archTrunc" .zero) Try.func43 (by kernel_rfl) (by kernel_rfl) (by kernel_rfl) (by kernel_rfl)]
  have h' : FloatKind.f64.decode d = .number s m i := h
  have e : Extern.MathFloor.toIntegral "math.archTrunc" .zero #[.float .f64 d] = pure (.float .f64 (Ieee.double.write (.number s (cutM m i) 0))) := by
    have hF : ∃ F : Bool → Nat → Sem Value, Extern.MathFloor.toIntegral "math.archTrunc" .zero #[.float .f64 d] = (match FloatKind.f64.decode d with
      | .nan s t => F s t
      | D => pure (.float .f64 (FloatKind.f64.encode (D.integral .zero)))) := ⟨_, rfl⟩
    obtain ⟨F, hF⟩ := hF
    rw [hF, h']
    show (pure (Value.float .f64 (FloatKind.f64.encode ((Ieee.Datum.number s m i).integral .zero))) : Sem Value) = _
    rw [integral_num]
    rfl
  rw [e]; rfl
theorem trunc_any (d t : Nat) (w : World) (h : ∀ w, (callFunc 43 #[.float .f64 d]).run Try.prog w = .ok (.value (.float .f64 t)) w) :
    Calls Try.prog 40 #[.float .f64 d] w fun e w' => e = .returned (.float .f64 t) ∧ w = w' := by
  go_enter Try.func40, Try.ntmps40
  go_wp2
  go_ret
  exact ⟨rfl, rfl⟩

theorem refwhole_a (d : Nat) (w : World) (h1 : (FloatKind.f64.format.order d 14114281232179134464 == some .gt || FloatKind.f64.format.order d 14114281232179134464 == some .eq) = false) :
    Calls Try.prog 32 #[.int .u64 d] w fun e w' => e = .returned (.tuple #[.int .i64 0, .bool false]) ∧ w = w' := by
  have hx := x64from d
  go_enter Try.func32, Try.ntmps32
  go_wp2
  go_ret2
  exact ⟨rfl, rfl⟩
theorem refwhole_b (d : Nat) (w : World) (h1 : (FloatKind.f64.format.order d 14114281232179134464 == some .gt || FloatKind.f64.format.order d 14114281232179134464 == some .eq) = true)
    (h2 : (FloatKind.f64.format.order d 4890909195324358656 == some .lt) = false) :
    Calls Try.prog 32 #[.int .u64 d] w fun e w' => e = .returned (.tuple #[.int .i64 0, .bool false]) ∧ w = w' := by
  have hx := x64from d
  go_enter Try.func32, Try.ntmps32
  go_wp2
  go_ret2
  exact ⟨rfl, rfl⟩
theorem refwhole_c (d t : Nat) (w : World) (h1 : (FloatKind.f64.format.order d 14114281232179134464 == some .gt || FloatKind.f64.format.order d 14114281232179134464 == some .eq) = true)
    (h2 : (FloatKind.f64.format.order d 4890909195324358656 == some .lt) = true) (ht : ∀ w, (callFunc 43 #[.float .f64 d]).run Try.prog w = .ok (.value (.float .f64 t)) w)
    (h3 : (FloatKind.f64.format.order t d == some .eq) = false) :
    Calls Try.prog 32 #[.int .u64 d] w fun e w' => e = .returned (.tuple #[.int .i64 0, .bool false]) ∧ w = w' := by
  have hx := x64from d
  go_enter Try.func32, Try.ntmps32
  go_wp2_with fail
  refine (trunc_any d t _ ht).mono ?_
  rintro e w' ⟨rfl, rfl⟩
  go_wp2_with fail
  go_ret2
  exact ⟨rfl, rfl⟩
theorem refwhole_d (d t : Nat) (n : Int) (w : World) (h1 : (FloatKind.f64.format.order d 14114281232179134464 == some .gt || FloatKind.f64.format.order d 14114281232179134464 == some .eq) = true)
    (h2 : (FloatKind.f64.format.order d 4890909195324358656 == some .lt) = true) (ht : ∀ w, (callFunc 43 #[.float .f64 d]).run Try.prog w = .ok (.value (.float .f64 t)) w)
    (h3 : (FloatKind.f64.format.order t d == some .eq) = true) (hn : floatToIntVal .f64 d .i64 = some n) :
    Calls Try.prog 32 #[.int .u64 d] w fun e w' => e = .returned (.tuple #[.int .i64 n, .bool true]) ∧ w = w' := by
  have hx := x64from d
  have hc := fun w1 => run_convert_float_int (P := Try.prog) w1 48 2 .f64 .i64 d n (by kernel_rfl) (by kernel_rfl) hn
  clear hn
  go_enter Try.func32, Try.ntmps32
  go_wp2_with fail
  refine (trunc_any d t _ ht).mono ?_
  rintro e w' ⟨rfl, rfl⟩
  go_wp2_with fail
  go_ret2
  exact ⟨rfl, rfl⟩

theorem order_eq (a b : Nat) : FloatKind.f64.format.order a b = (Ieee.double.read a).order (Ieee.double.read b) := rfl

theorem isWhole_no {d : Nat} (h0 : ¬ d % 9223372036854775808 = 0) (h1 : ¬ d = 14114281232179134464) (h2 : ¬ (1023 ≤ ex d ∧ ex d ≤ 1085)) : isWhole d = false := by
  unfold isWhole
  unfold ex at h2
  rw [decide_eq_false h0, decide_eq_false h1]
  simp only [Bool.false_or]
  rw [Bool.and_eq_false_iff, Bool.and_eq_false_iff]
  by_cases h : 1023 ≤ d / 4503599627370496 % 2048
  · exact .inl (.inr (decide_eq_false (by omega)))
  · exact .inl (.inl (decide_eq_false h))

theorem refwhole_any (d : Nat) (hd : d < 18446744073709551616) (w : World) :
    Calls Try.prog 32 #[.int .u64 d] w fun e w' => e = .returned (.tuple #[.int .i64 (whole d), .bool (isWhole d)]) ∧ w = w' := by
  obtain ⟨r0, r1, r2, r3⟩ := read64 hd
  have hfr : fr d < 4503599627370496 := by unfold fr; omega
  have hex : ex d ≤ 2047 := by unfold ex; omega
  have hdd : d = (if sg d = true then 9223372036854775808 else 0) + ex d * 4503599627370496 + fr d := by
    unfold sg ex fr
    by_cases h : 9223372036854775808 ≤ d
    · rw [decide_eq_true h, if_pos rfl]; omega
    · rw [decide_eq_false h, if_neg (by simp)]; omega
  have hno : isWhole d = false → (Calls Try.prog 32 #[.int .u64 d] w fun e w' => e = .returned (.tuple #[.int .i64 0, .bool false]) ∧ w = w') →
      Calls Try.prog 32 #[.int .u64 d] w fun e w' => e = .returned (.tuple #[.int .i64 (whole d), .bool (isWhole d)]) ∧ w = w' := by
    intro h hc
    rw [whole_not h, h]; exact hc
  by_cases hbig : 1086 ≤ ex d
  · by_cases hc1 : d = 14114281232179134464
    · subst hc1
      have hw1 : whole 14114281232179134464 = -9223372036854775808 := by decide +kernel
      have hw2 : isWhole 14114281232179134464 = true := by decide +kernel
      rw [hw1, hw2]
      refine refwhole_d _ (Ieee.double.write (.number true (cutM 4503599627370496 11) 0)) _ w (by decide +kernel) (by decide +kernel) (xtrunc _ true _ _ read_c1) (by decide +kernel) (by decide +kernel)
    · have hz : ¬ d % 9223372036854775808 = 0 := by
        intro h
        unfold ex at hbig
        omega
      refine hno (isWhole_no hz hc1 (by omega)) ?_
      by_cases hinf : ex d = 2047
      · by_cases hf0 : fr d = 0
        · have hr := r2 hinf hf0
          cases hs : sg d
          · rw [hs] at hr
            refine refwhole_b d w ?_ ?_
            · rw [order_eq, hr, read_c1]; rfl
            · rw [order_eq, hr, read_c2]; rfl
          · rw [hs] at hr
            refine refwhole_a d w ?_
            rw [order_eq, hr, read_c1]; rfl
        · have hr := r3 hinf hf0
          refine refwhole_a d w ?_
          rw [order_eq, hr]; rfl
      · have hr := r1 (by omega) (by omega)
        cases hs : sg d
        · rw [hs] at hr
          obtain ⟨o1, o2⟩ := order_big_pos (4503599627370496 + fr d) ((ex d : Int) - 1075) (by omega) (by omega)
          refine refwhole_b d w ?_ ?_
          · rw [order_eq, hr, read_c1, o1]; rfl
          · rw [order_eq, hr, read_c2, o2]
        · rw [hs] at hr
          refine refwhole_a d w ?_
          rw [order_eq, hr, read_c1, order_big_neg _ _ (by omega) (by omega) ?_]
          · rfl
          · rintro ⟨q1, q2⟩
            apply hc1
            rw [hdd, hs, if_pos rfl, show ex d = 1086 by omega, show fr d = 0 by omega]
  · have hd1 : ¬ d = 14114281232179134464 := by
      rintro rfl
      revert hbig
      decide +kernel
    -- a number m · 2^i
    obtain ⟨m, i, hr, hm, hi, hmi⟩ : ∃ m i, Ieee.double.read d = .number (sg d) m i ∧ m < 9007199254740992 ∧ i ≤ 10 ∧ ((ex d = 0 ∧ m = fr d ∧ i = -1074) ∨ (1 ≤ ex d ∧ m = 4503599627370496 + fr d ∧ i = (ex d : Int) - 1075)) := by
      by_cases h0 : ex d = 0
      · exact ⟨_, _, r0 h0, by omega, by omega, .inl ⟨h0, rfl, rfl⟩⟩
      · exact ⟨_, _, r1 (by omega) (by omega), by omega, by omega, .inr ⟨by omega, rfl, rfl⟩⟩
    obtain ⟨o1, o2⟩ := order_small (sg d) m i hm hi
    have hb1 : (FloatKind.f64.format.order d 14114281232179134464 == some .gt || FloatKind.f64.format.order d 14114281232179134464 == some .eq) = true := by
      rw [order_eq, hr, read_c1, o1]; rfl
    have hb2 : (FloatKind.f64.format.order d 4890909195324358656 == some .lt) = true := by
      rw [order_eq, hr, read_c2, o2]; rfl
    have hti : (FloatKind.f64.decode d).toInt .zero = some (if sg d then -(cutM m i : Int) else cutM m i) := by
      show (Ieee.double.read d).toInt .zero = _
      rw [hr, toInt_num]
    have hxt := xtrunc d (sg d) m i hr
    have hor : ∀ b, ((Ieee.double.read (Ieee.double.write (.number (sg d) (cutM m i) 0))).order (.number (sg d) m i) == some .eq) = b → (FloatKind.f64.format.order (Ieee.double.write (.number (sg d) (cutM m i) 0)) d == some .eq) = b := by
      intro b h
      rw [order_eq, hr, h]
    have hfit : ∀ n : Int, (if sg d then -(cutM m i : Int) else cutM m i) = n → -9223372036854775808 ≤ n → n ≤ 9223372036854775807 → floatToIntVal .f64 d .i64 = some n := by
      intro n hn h1 h2
      unfold floatToIntVal
      rw [hti, hn]
      have e1 : IntKind.i64.min = -9223372036854775808 := by decide +kernel
      have e2 : IntKind.i64.max = 9223372036854775807 := by decide +kernel
      simp only [e1, e2]
      rw [if_pos ⟨h1, h2⟩]
    by_cases hz : d % 9223372036854775808 = 0
    · have hm0 : m = 0 := by
        unfold ex fr at hmi
        omega
      have hc0 : cutM m i = 0 := by rw [hm0]; unfold cutM; rw [Nat.zero_mul, Nat.zero_div]
      have hw1 : whole d = 0 := by unfold whole; rw [if_pos hz]
      have hw2 : isWhole d = true := by unfold isWhole; rw [decide_eq_true hz]; rfl
      rw [hw1, hw2]
      refine refwhole_d d _ 0 w hb1 hb2 hxt (hor true ?_) (hfit 0 (by rw [hc0]; simp) (by omega) (by omega))
      have hr0 : Ieee.double.read (Ieee.double.write (.number (sg d) 0 0)) = .number (sg d) 0 (-1074) := by
        rw [trunc_zero]; cases sg d <;> decide +kernel
      have hi0 : i = -1074 := by
        unfold ex fr at hmi
        omega
      rw [hc0, hr0, hm0, hi0, order_self]
    · by_cases hlow : ex d < 1023
      · refine hno (isWhole_no hz hd1 (by omega)) ?_
        have hc0 : cutM m i = 0 := by
          unfold cutM
          have hi2 : i.toNat = 0 := by omega
          obtain ⟨k, hk⟩ : ∃ k, (-i).toNat = k + 53 := ⟨(-i).toNat - 53, by omega⟩
          have hp : 0 < 2 ^ k := Nat.pow_pos (by omega)
          have e53 : (2 : Nat) ^ 53 = 9007199254740992 := by decide +kernel
          rw [hi2, hk, Nat.pow_add, e53, Nat.pow_zero, Nat.mul_one]
          exact Nat.div_eq_of_lt (by omega)
        refine refwhole_c d _ w hb1 hb2 hxt (hor false ?_)
        rw [hc0]
        refine order_zero _ ?_
        unfold ex fr at hmi
        omega
      · have hmv : m = 4503599627370496 + fr d ∧ i = (ex d : Int) - 1075 := by omega
        obtain ⟨hmv, hiv⟩ := hmv
        have hcU : cutM m i = wholeU d := by
          unfold cutM wholeU
          rw [hmv, hiv]
          unfold ex fr
          by_cases h75 : 1075 ≤ d / 4503599627370496 % 2048
          · rw [if_pos h75, show (-(((d / 4503599627370496 % 2048 : Nat) : Int) - 1075)).toNat = 0 by omega, show (((d / 4503599627370496 % 2048 : Nat) : Int) - 1075).toNat = d / 4503599627370496 % 2048 - 1075 by omega, Nat.pow_zero, Nat.div_one, Nat.add_comm 4503599627370496]
          · rw [if_neg h75, show (((d / 4503599627370496 % 2048 : Nat) : Int) - 1075).toNat = 0 by omega, show (-(((d / 4503599627370496 % 2048 : Nat) : Int) - 1075)).toNat = 1075 - d / 4503599627370496 % 2048 by omega, Nat.pow_zero, Nat.mul_one, Nat.add_comm 4503599627370496]
        cases hI : isWhole d with
        | true =>
          obtain ⟨hdw, hw1, hw2⟩ := dbl_whole hd hI
          have hdw : dbl (whole d) = d := by
            rcases hdw with h | h
            · exact h
            · exact absurd (by rw [h]) hz
          have hwv : whole d = if sg d then -(cutM m i : Int) else cutM m i := by
            rw [hcU]
            unfold whole
            rw [if_neg hz, if_neg hd1, if_pos hI]
            unfold sg
            by_cases hs : 9223372036854775808 ≤ d
            · rw [if_pos hs, decide_eq_true hs]; rfl
            · rw [if_neg hs, decide_eq_false hs]; rfl
          have hM0 : 0 < cutM m i := by
            rcases Nat.eq_zero_or_pos (cutM m i) with h | h
            · rw [h] at hwv
              have hw0 : whole d = 0 := by rw [hwv]; cases sg d <;> rfl
              rw [hw0] at hdw
              have : d = 0 := by rw [← hdw]; decide +kernel
              subst this
              exact absurd rfl hz
            · exact h
          have hMh : high (cutM m i) ≤ 63 := by
            refine high_small hM0 ?_
            have e64 : (2 : Nat) ^ (63 + 1) = 18446744073709551616 := by decide +kernel
            rw [e64]
            cases hs : sg d
            · rw [hs] at hwv; simp at hwv; omega
            · rw [hs] at hwv; simp at hwv; omega
          have hwr : Ieee.double.write (.number (sg d) (cutM m i) 0) = d := by
            rw [trunc_some _ hM0 hMh]
            rw [hwv] at hdw
            unfold dbl fbits at hdw
            cases hs : sg d
            · rw [hs] at hdw
              simp only [Bool.false_eq_true, if_false, Int.natAbs_natCast] at hdw ⊢
              rw [if_neg (by omega), if_neg (by omega)] at hdw
              exact hdw
            · rw [hs] at hdw
              simp only [if_true, Int.natAbs_neg, Int.natAbs_natCast] at hdw ⊢
              rw [if_neg (by omega), if_pos (by omega)] at hdw
              exact hdw
          refine refwhole_d d _ _ w hb1 hb2 hxt (hor true ?_) (hfit _ hwv.symm hw1 hw2)
          rw [hwr, hr, order_self]
        | false =>
          have hcut : ¬ (1075 ≤ ex d) ∧ cutM m i * 2 ^ (-i).toNat ≠ m := by
            unfold isWhole at hI
            rw [decide_eq_false hz, decide_eq_false hd1] at hI
            unfold ex at hlow hbig hiv ⊢
            rw [decide_eq_true (show 1023 ≤ d / 4503599627370496 % 2048 by omega), decide_eq_true (show d / 4503599627370496 % 2048 ≤ 1085 by omega)] at hI
            simp only [Bool.false_or, Bool.true_and, Bool.or_eq_false_iff, decide_eq_false_iff_not] at hI
            refine ⟨hI.1, ?_⟩
            rw [hcU, hmv, hiv, show (-(((d / 4503599627370496 % 2048 : Nat) : Int) - 1075)).toNat = 1075 - d / 4503599627370496 % 2048 by omega, Nat.add_comm 4503599627370496]
            exact hI.2
          obtain ⟨hc1, hc2⟩ := hcut
          have hsmall : cutM m i ≤ m := by
            unfold cutM
            rw [show i.toNat = 0 by omega, Nat.pow_zero, Nat.mul_one]
            exact Nat.div_le_self _ _
          have hM0 : 0 < cutM m i := by
            unfold cutM
            rw [show i.toNat = 0 by omega, Nat.pow_zero, Nat.mul_one]
            have hp : 2 ^ (-i).toNat ≤ 2 ^ 52 := Nat.pow_le_pow_right (by omega) (by omega)
            have e52 : (2 : Nat) ^ 52 = 4503599627370496 := by decide +kernel
            rw [e52] at hp
            exact Nat.div_pos (by omega) (Nat.pow_pos (by omega))
          have hMh : high (cutM m i) ≤ 52 := by
            refine high_small hM0 ?_
            have e53 : (2 : Nat) ^ (52 + 1) = 9007199254740992 := by decide +kernel
            rw [e53]; omega
          have h := hno hI (refwhole_c d _ w hb1 hb2 hxt (hor false (order_cut (sg d) hM0 hMh (by omega) hc2)))
          rw [hI] at h
          exact h
end Go.Proofs.Ytaeecppabbjogaa.Pro
