/- The layer promote: what its functions compute. -/
import Derived.Test.YtaeecppabbjogaaZigW
import Derived.Test.YtaeecppabbjogaaProN
namespace Go.Proofs.Ytaeecppabbjogaa.Pro
open Go.ChangeShapes Go.WideShapes Go.ChangeAt Go.RowKit
open Num Zg ZgW ProN

theorem round_zero (u : Nat) (w : World) : Calls Try.prog 34 #[.int .u64 u, .int .u64 0] w fun e w' => e = .returned (.int .u64 u) ∧ w = w' := by
  go_enter Try.func34, Try.ntmps34
  go_wp2
  go_ret
  exact ⟨rfl, rfl⟩
theorem round_big (u d : Nat) (hd : 64 < d) (w : World) : Calls Try.prog 34 #[.int .u64 u, .int .u64 d] w fun e w' => e = .returned (.int .u64 0) ∧ w = w' := by
  have h0 : ((d : Int) == 0) = false := by simp; omega
  go_enter Try.func34, Try.ntmps34
  go_wp2
  go_ret
  exact ⟨rfl, rfl⟩
theorem round_mid (u d : Nat) (h1 : 1 ≤ d) (h2 : d ≤ 63) (hu : u ≤ 18446744073709551615) (w : World) : Calls Try.prog 34 #[.int .u64 u, .int .u64 d] w fun e w' => e = .returned (.int .u64 (rnd u d)) ∧ w = w' := by
  have h0 : ((d : Int) == 0) = false := by simp; omega
  have h64 : ((d : Int) == 64) = false := by simp; omega
  have e1 := andNot_val u d hu
  have e2 := half_val d h1 (by omega)
  have e3' : ∀ q : Nat, q ≤ u → bits BinOp.and IntKind.u64 (q : Int) 1 = (q : Int) % 2 := fun q hq => u64_and1 _ (by omega) (by omega)
  have e3 := e3' (u / 2 ^ d) (Nat.div_le_self _ _)
  clear e3'
  have e4 := div_val u d
  have hq : u / 2 ^ d ≤ 9223372036854775807 := by
    have : u / 2 ^ d ≤ u / 2 ^ 1 := Nat.div_le_div_left (Nat.pow_le_pow_right (by omega) h1) (by omega)
    omega
  have hR : rnd u d = if 2 ^ (d - 1) < u % 2 ^ d ∨ (u % 2 ^ d = 2 ^ (d - 1) ∧ u / 2 ^ d % 2 = 1) then u / 2 ^ d + 1 else u / 2 ^ d := by
    unfold rnd; rw [if_neg (by omega), if_neg (by omega)]
  generalize rnd u d = R at hR ⊢
  generalize u / 2 ^ d = q at hR hq e1 e3 e4
  generalize u % 2 ^ d = r at hR e1
  have e5 : (((q : Nat) : Int) % 2) = ((q % 2 : Nat) : Int) := by omega
  rw [e5] at e3
  generalize q % 2 = m at hR e3
  generalize 2 ^ (d - 1) = H at hR e2
  clear e5
  rcases Nat.lt_trichotomy H r with h | h | h
  · rw [if_pos (.inl h)] at hR
    have HR := Lib.hid hR
    clear hR
    have t1 : (H : Int) < (r : Int) := by omega
    go_enter Try.func34, Try.ntmps34
    go_wp2
    go_ret
    exact ⟨ret_int (by rw [HR.out]; omega), rfl⟩
  · subst h
    by_cases hm : m = 1
    · rw [if_pos (.inr ⟨rfl, hm⟩)] at hR
      have HR := Lib.hid hR
      have t2 : ((m : Int) == 1) = true := by simp; omega
      clear hR hm
      go_enter Try.func34, Try.ntmps34
      go_wp2
      go_ret
      exact ⟨ret_int (by rw [HR.out]; omega), rfl⟩
    · rw [if_neg (by omega)] at hR
      have HR := Lib.hid hR
      have t2 : ((m : Int) == 1) = false := by simp; omega
      clear hR hm
      go_enter Try.func34, Try.ntmps34
      go_wp2
      go_ret
      exact ⟨ret_int (by rw [HR.out]), rfl⟩
  · rw [if_neg (by omega)] at hR
    have HR := Lib.hid hR
    clear hR
    have t1 : ¬ (H : Int) < (r : Int) := by omega
    have t2 : ((r : Int) == (H : Int)) = false := by simp; omega
    go_enter Try.func34, Try.ntmps34
    go_wp2
    go_ret
    exact ⟨ret_int (by rw [HR.out]), rfl⟩
theorem round_64 (u : Nat) (hu : u ≤ 18446744073709551615) (w : World) : Calls Try.prog 34 #[.int .u64 u, .int .u64 64] w fun e w' => e = .returned (.int .u64 (rnd u 64)) ∧ w = w' := by
  have hR : rnd u 64 = if 9223372036854775808 < u then 1 else 0 := by
    unfold rnd
    rw [if_neg (by omega), if_neg (by omega), show (2 : Nat) ^ 64 = 18446744073709551616 by rfl, show (2 : Nat) ^ (64 - 1) = 9223372036854775808 by rfl, Nat.mod_eq_of_lt (by omega), Nat.div_eq_of_lt (by omega)]
    simp
  generalize rnd u 64 = R at hR ⊢
  by_cases h : 9223372036854775808 < u
  · rw [if_pos h] at hR
    have HR := Lib.hid hR
    clear hR
    go_enter Try.func34, Try.ntmps34
    go_wp2
    go_ret
    exact ⟨ret_int (by rw [HR.out]; rfl), rfl⟩
  · rw [if_neg h] at hR
    have HR := Lib.hid hR
    clear hR
    have e3 : bits BinOp.and IntKind.u64 0 1 = 0 := by decide +kernel
    go_enter Try.func34, Try.ntmps34
    go_wp2
    all_goals go_ret
    all_goals exact ⟨ret_int (by rw [HR.out]; rfl), rfl⟩
theorem round_any (u d : Nat) (hu : u ≤ 18446744073709551615) (w : World) : Calls Try.prog 34 #[.int .u64 u, .int .u64 d] w fun e w' => e = .returned (.int .u64 (rnd u d)) ∧ w = w' := by
  by_cases h0 : d = 0
  · subst h0
    have : rnd u 0 = u := by unfold rnd; rw [if_pos rfl]
    rw [this]; exact round_zero u w
  · by_cases h1 : 64 < d
    · have : rnd u d = 0 := by unfold rnd; rw [if_neg h0, if_pos h1]
      rw [this]; exact round_big u d h1 w
    · by_cases h2 : d = 64
      · subst h2; exact round_64 u hu w
      · exact round_mid u d (by omega) (by omega) hu w

theorem grown_trans {a b c : World} (h : Grown a b) (k : Grown b c) : Grown a c := ⟨World.keptBut_trans h.1 k.1, fun x => (k.2.1 x).trans (h.2.1 x), Nat.le_trans h.2.2 k.2.2⟩

theorem put_up (g m s : Nat) (w : World) (hc : w.cell? ⟨g, 0, none⟩ = some (.int .u64 m)) (hf : w.frozen? ⟨g, 0, none⟩ = false) (hm : m * 2 ^ s ≤ 18446744073709551615) (hs : s ≤ 60) :
    Calls Try.prog 42 #[.int .i64 s, .pointer (some ⟨g, 0, none⟩)] w fun e w' => e = .returned (.tuple #[]) ∧ w.setCell ⟨g, 0, none⟩ (.int .u64 (m * 2 ^ s : Nat)) = w' := by
  have e : IntKind.u64.wrap ((m : Int) * 2 ^ s) = ((m * 2 ^ s : Nat) : Int) := by
    rw [wrap_u64, show ((2 : Int) ^ s) = ((2 ^ s : Nat) : Int) by simp, ← Int.natCast_mul]
    omega
  generalize m * 2 ^ s = v at e hm ⊢
  go_enter Try.func42, Try.ntmps42
  go_wp2
  refine bodyPost_ret (results_none rfl _ _ _) rfl ?_
  exact ⟨rfl, rfl⟩
theorem put_down (g m s : Nat) (w : World) (hc : w.cell? ⟨g, 0, none⟩ = some (.int .u64 m)) (hf : w.frozen? ⟨g, 0, none⟩ = false) (hm : m ≤ 18446744073709551615) (hs : s ≤ 64) (hs1 : 1 ≤ s) :
    Calls Try.prog 42 #[.int .i64 (-(s : Int)), .pointer (some ⟨g, 0, none⟩)] w fun e w' => e = .returned (.tuple #[]) ∧ w.setCell ⟨g, 0, none⟩ (.int .u64 (rnd m s)) = w' := by
  have t1 : ¬ (0 : Int) ≤ -(s : Int) := by omega
  go_enter Try.func42, Try.ntmps42
  go_wp2_with fail
  refine (round_any m s hm _).mono ?_
  rintro e w' ⟨rfl, rfl⟩
  go_wp2_with fail
  go_end0
  exact ⟨rfl, rfl⟩

theorem put_any (g m digits : Nat) (w : World) (hc : w.cell? ⟨g, 0, none⟩ = some (.int .u64 m)) (hf : w.frozen? ⟨g, 0, none⟩ = false) (hm : m ≤ 9223372036854775808) (h0 : 0 < m) (hd : digits ≤ 52) :
    Calls Try.prog 42 #[.int .i64 ((digits : Int) - (high m : Int)), .pointer (some ⟨g, 0, none⟩)] w fun e w' => e = .returned (.tuple #[]) ∧ w.setCell ⟨g, 0, none⟩ (.int .u64 (mant m digits)) = w' := by
  have hh := high_small (u := m) (k := 63) h0 (by omega)
  have hb := mant_hi m digits
  by_cases h : high m ≤ digits
  · have e : mant m digits = m * 2 ^ (digits - high m) := by unfold mant; rw [if_pos h]
    rw [e] at hb ⊢
    rw [show (digits : Int) - (high m : Int) = ((digits - high m : Nat) : Int) by omega]
    refine put_up g m _ w hc hf ?_ (by omega)
    have h2 : 2 ^ (digits + 1) ≤ 2 ^ 53 := Nat.pow_le_pow_right (by omega) (by omega)
    omega
  · have e : mant m digits = rnd m (high m - digits) := by unfold mant; rw [if_neg h]
    rw [e]
    rw [show (digits : Int) - (high m : Int) = -((high m - digits : Nat) : Int) by omega]
    exact put_down g m _ w hc hf (by omega) (by omega) (by omega)

theorem bits_neg (u : Nat) (n : Int) (sign bias digits : Nat) (h0 : 0 < u) (hu : n.natAbs = u) (hn0 : n < 0) (h1 : u ≤ 9223372036854775808) (hs : sign ≤ 9223372036854775808) (hb : bias ≤ 1023) (hb1 : 1 ≤ bias) (hd : digits ≤ 52) (w : World) :
    Calls Try.prog 36 #[.int .i64 n, .int .u64 sign, .int .i64 bias, .int .i64 digits] w fun e w' => e = .returned (.int .u64 (sign + mag u bias digits : Nat)) ∧ Grown w w' := by
  have hmf : ∀ (fn : Fn) (first cap : Array Value) (w : World), (Instr.makeFunc fn first cap).run Try.prog w = .ok (.func fn first cap) w := fun _ _ _ _ => rfl
  have hn := nbits_high (u := u) (by omega)
  have hh := high_small (u := u) (k := 63) (by omega) (by omega)
  have HN := Lib.hid hn
  have hml := mag_lt (u := u) (bias := bias) (digits := digits) hh hb hd
  have hmg : mag u bias digits = (bias + high u - 1) * 2 ^ digits + mant u digits := rfl
  have hsh : ∀ X : Int, X = ((bias + high u - 1 : Nat) : Int) → IntKind.u64.wrap (X * 2 ^ digits) = (((bias + high u - 1) * 2 ^ digits : Nat) : Int) := by
    intro X hX
    rw [hX, wrap_u64, show ((2 : Int) ^ digits) = ((2 ^ digits : Nat) : Int) by simp, ← Int.natCast_mul]
    omega
  have hsh' := hsh ((bias : Int) + (high u : Int) - 1) (by omega)
  clear hsh
  generalize (bias + high u - 1) * 2 ^ digits = E at hmg hsh'
  have HMG := Lib.hid hmg
  have hE : E + mant u digits < 9223372036854775808 := by omega
  clear hn hmg hml
  have hz : (n == 0) = false := by simp; omega
  have en : IntKind.u64.wrap (-IntKind.u64.wrap n) = (u : Int) := by
    rw [wrap_u64, wrap_u64]; omega
  clear hu
  go_enter Try.func36, Try.ntmps36
  go_wp2_with fail
  refine (bits_any u (by omega) _).mono ?_
  rintro e w' ⟨rfl, rfl⟩
  rw [HN.out]
  go_wp2_with fail
  refine (put_any w.heap.size u digits _ (by simp) (by simp) h1 h0 hd).mono ?_
  rintro e w2 ⟨rfl, rfl⟩
  go_wp2_with fail
  go_ret
  rw [HMG.out]
  exact ⟨ret_int (by omega), (Grown.refl _).alloc _ _⟩
theorem bits_pos (u : Nat) (n : Int) (sign bias digits : Nat) (h0 : 0 < u) (hu : n.natAbs = u) (hn0 : 0 < n) (h1 : u ≤ 9223372036854775808) (_hs : sign ≤ 9223372036854775808) (hb : bias ≤ 1023) (hb1 : 1 ≤ bias) (hd : digits ≤ 52) (w : World) :
    Calls Try.prog 36 #[.int .i64 n, .int .u64 sign, .int .i64 bias, .int .i64 digits] w fun e w' => e = .returned (.int .u64 (mag u bias digits : Nat)) ∧ Grown w w' := by
  have hmf : ∀ (fn : Fn) (first cap : Array Value) (w : World), (Instr.makeFunc fn first cap).run Try.prog w = .ok (.func fn first cap) w := fun _ _ _ _ => rfl
  have hn := nbits_high (u := u) (by omega)
  have hh := high_small (u := u) (k := 63) (by omega) (by omega)
  have HN := Lib.hid hn
  have hml := mag_lt (u := u) (bias := bias) (digits := digits) hh hb hd
  have hmg : mag u bias digits = (bias + high u - 1) * 2 ^ digits + mant u digits := rfl
  have hsh : ∀ X : Int, X = ((bias + high u - 1 : Nat) : Int) → IntKind.u64.wrap (X * 2 ^ digits) = (((bias + high u - 1) * 2 ^ digits : Nat) : Int) := by
    intro X hX
    rw [hX, wrap_u64, show ((2 : Int) ^ digits) = ((2 ^ digits : Nat) : Int) by simp, ← Int.natCast_mul]
    omega
  have hsh' := hsh ((bias : Int) + (high u : Int) - 1) (by omega)
  clear hsh
  generalize (bias + high u - 1) * 2 ^ digits = E at hmg hsh'
  have HMG := Lib.hid hmg
  have hE : E + mant u digits < 9223372036854775808 := by omega
  clear hn hmg hml
  have hz : (n == 0) = false := by simp; omega
  have en : n = (u : Int) := by omega
  clear hu
  subst en
  go_enter Try.func36, Try.ntmps36
  go_wp2_with fail
  refine (bits_any u (by omega) _).mono ?_
  rintro e w' ⟨rfl, rfl⟩
  rw [HN.out]
  go_wp2_with fail
  refine (put_any w.heap.size u digits _ (by simp) (by simp) h1 h0 hd).mono ?_
  rintro e w2 ⟨rfl, rfl⟩
  go_wp2_with fail
  go_ret
  rw [HMG.out]
  exact ⟨ret_int (by omega), (Grown.refl _).alloc _ _⟩
theorem bits_zero (sign bias digits : Nat) (w : World) :
    Calls Try.prog 36 #[.int .i64 0, .int .u64 sign, .int .i64 bias, .int .i64 digits] w fun e w' => e = .returned (.int .u64 0) ∧ Grown w w' := by
  go_enter Try.func36, Try.ntmps36
  go_wp2
  go_ret
  exact ⟨rfl, Grown.refl _⟩
theorem fbits_any (n : Int) (sign bias digits : Nat) (h1 : -9223372036854775808 ≤ n) (h2 : n ≤ 9223372036854775807) (hs : sign ≤ 9223372036854775808) (hb : bias ≤ 1023) (hb1 : 1 ≤ bias) (hd : digits ≤ 52) (w : World) :
    Calls Try.prog 36 #[.int .i64 n, .int .u64 sign, .int .i64 bias, .int .i64 digits] w fun e w' => e = .returned (.int .u64 (fbits n sign bias digits)) ∧ Grown w w' := by
  rcases Int.lt_trichotomy n 0 with h | h | h
  · have e : fbits n sign bias digits = sign + mag n.natAbs bias digits := by unfold fbits; rw [if_neg (by omega), if_pos h]
    rw [e]
    exact bits_neg n.natAbs n sign bias digits (by omega) rfl h (by omega) hs hb hb1 hd w
  · subst h
    exact bits_zero sign bias digits w
  · have e : fbits n sign bias digits = mag n.natAbs bias digits := by unfold fbits; rw [if_neg (by omega), if_neg (by omega), Nat.zero_add]
    rw [e]
    exact bits_pos n.natAbs n sign bias digits (by omega) rfl h (by omega) hs hb hb1 hd w

def dbl (n : Int) : Nat := fbits n 9223372036854775808 1023 52
def flt (n : Int) : Nat := fbits n 2147483648 127 23
theorem flt_lt (n : Int) (h1 : -9223372036854775808 ≤ n) (h2 : n ≤ 9223372036854775807) : flt n < 4294967296 := by
  unfold flt fbits
  by_cases h0 : n = 0
  · rw [if_pos h0]; omega
  · rw [if_neg h0]
    have := mag_lt32 (u := n.natAbs) (high_small (k := 63) (by omega) (by omega))
    split <;> omega
theorem dbl_lt (n : Int) (h1 : -9223372036854775808 ≤ n) (h2 : n ≤ 9223372036854775807) : dbl n < 18446744073709551616 := by
  unfold dbl fbits
  by_cases h0 : n = 0
  · rw [if_pos h0]; omega
  · rw [if_neg h0]
    have := mag_lt (u := n.natAbs) (bias := 1023) (digits := 52) (high_small (k := 63) (by omega) (by omega)) (by omega) (by omega)
    split <;> omega
theorem double_any (n : Int) (h1 : -9223372036854775808 ≤ n) (h2 : n ≤ 9223372036854775807) (w : World) :
    Calls Try.prog 25 #[.int .i64 n] w fun e w' => e = .returned (.int .u64 (dbl n)) ∧ Grown w w' := by
  go_enter Try.func25, Try.ntmps25
  go_wp2_with fail
  refine (fbits_any n 9223372036854775808 1023 52 h1 h2 (by omega) (by omega) (by omega) (by omega) _).mono ?_
  rintro e w' ⟨rfl, hg⟩
  go_wp2_with fail
  go_ret
  exact ⟨rfl, hg⟩
theorem float_any (n : Int) (h1 : -9223372036854775808 ≤ n) (h2 : n ≤ 9223372036854775807) (w : World) :
    Calls Try.prog 27 #[.int .i64 n] w fun e w' => e = .returned (.int .u32 (flt n)) ∧ Grown w w' := by
  have hl := flt_lt n h1 h2
  have hw : fbits n 2147483648 127 23 = flt n := rfl
  go_enter Try.func27, Try.ntmps27
  go_wp2_with fail
  refine (fbits_any n 2147483648 127 23 h1 h2 (by omega) (by omega) (by omega) (by omega) _).mono ?_
  rintro e w' ⟨rfl, hg⟩
  rw [hw]
  clear hw
  go_wp2_with fail
  go_ret
  exact ⟨rfl, hg⟩
end Go.Proofs.Ytaeecppabbjogaa.Pro
