/- The layer zig: what each of its functions, and of the document's own, computes. -/
import Derived.Test.YtodgnlhakafhoaaNum
import Derived.Test.YtodgnlhakafhoaaRows
import Derived.WalkKit
import Derived.ProofKit
import Derived.OpenShut
import Derived.Outline
import Derived.WalkLawsBesides
import Derived.Lib.Hide
import Derived.Deep.LoopGhost
namespace Go.Proofs.Ytodgnlhakafhoaa.Zg
open Go.ChangeShapes Go.WideShapes Go.ChangeAt Go.RowKit
open Num

theorem ret_int {k : IntKind} {a b : Int} (h : a = b) : Ending.returned (.int k a) = .returned (.int k b) := by rw [h]

theorem zig_val_pos (n : Int) (h1 : 0 ≤ n) (h2 : n ≤ 9223372036854775807) :
    bits BinOp.xor IntKind.u64 (IntKind.u64.wrap (IntKind.u64.wrap n * 2)) (IntKind.u64.wrap (n / 9223372036854775808)) = zig n := by
  rw [wrap_u64, wrap_u64, wrap_u64, show n / 9223372036854775808 % 18446744073709551616 = 0 by omega, u64_xor0 _ (by omega) (by omega), zig_pos h1]
  omega
theorem zig_val_neg (n : Int) (h1 : n < 0) (h2 : -9223372036854775808 ≤ n) :
    bits BinOp.xor IntKind.u64 (IntKind.u64.wrap (IntKind.u64.wrap n * 2)) (IntKind.u64.wrap (n / 9223372036854775808)) = zig n := by
  rw [wrap_u64, wrap_u64, wrap_u64, show n / 9223372036854775808 % 18446744073709551616 = 18446744073709551615 by omega, u64_xor1 _ (by omega) (by omega), zig_neg h1]
  omega

theorem zig_val (n : Int) (h1 : -9223372036854775808 ≤ n) (h2 : n ≤ 9223372036854775807) :
    bits BinOp.xor IntKind.u64 (IntKind.u64.wrap (IntKind.u64.wrap n * 2)) (IntKind.u64.wrap (n / 9223372036854775808)) = zig n := by
  by_cases h : 0 ≤ n
  · exact zig_val_pos n h h2
  · exact zig_val_neg n (by omega) h1

theorem zig_any (n : Int) (h1 : -9223372036854775808 ≤ n) (h2 : n ≤ 9223372036854775807) (w : World) :
    Calls Try.prog 55 #[.int .i64 n] w fun e w' => e = .returned (.int .u64 (zig n)) ∧ w = w' := by
  go_enter Try.func55, Try.ntmps55
  go_wp2
  go_ret
  exact ⟨ret_int (zig_val n h1 h2), rfl⟩

theorem refzig_any (n : Int) (h1 : -9223372036854775808 ≤ n) (h2 : n ≤ 9223372036854775807) (w : World) :
    Calls Try.prog 56 #[.int .i64 n] w fun e w' => e = .returned (.int .u64 (zig n)) ∧ w = w' := by
  by_cases h : 0 ≤ n
  · go_enter Try.func56, Try.ntmps56
    go_wp2
    go_ret
    exact ⟨ret_int (by rw [zig_pos h]), rfl⟩
  · go_enter Try.func56, Try.ntmps56
    go_wp2
    go_ret
    exact ⟨ret_int (by rw [zig_neg (by omega)]; omega), rfl⟩

theorem zag_val (n : Int) (h1 : 0 ≤ n) (h2 : n ≤ 18446744073709551615) :
    bits BinOp.xor IntKind.i64 (n / 2) (wrap64 (-wrap64 (bits BinOp.and IntKind.u64 n 1))) = zag n := by
  rw [u64_and1 n h1 (by omega)]
  obtain ⟨m, hm⟩ := Int.eq_ofNat_of_zero_le (show 0 ≤ n / 2 by omega)
  rcases (show n % 2 = 0 ∨ n % 2 = 1 by omega) with h | h
  · rw [h, zag_even h, hm, show wrap64 (-wrap64 0) = 0 by decide +kernel]
    exact i64_xor0 m (by omega)
  · rw [h, zag_odd h, hm, show wrap64 (-wrap64 1) = -1 by decide +kernel]
    exact i64_xor1 m (by omega)

theorem zag_any (n : Int) (h1 : 0 ≤ n) (h2 : n ≤ 18446744073709551615) (w : World) :
    Calls Try.prog 53 #[.int .u64 n] w fun e w' => e = .returned (.int .i64 (zag n)) ∧ w = w' := by
  go_enter Try.func53, Try.ntmps53
  go_wp2
  go_ret
  exact ⟨ret_int (zag_val n h1 h2), rfl⟩
theorem refzag_any (n : Int) (h1 : 0 ≤ n) (h2 : n ≤ 18446744073709551615) (w : World) :
    Calls Try.prog 80 #[.int .u64 n] w fun e w' => e = .returned (.int .i64 (zag n)) ∧ w = w' := by
  go_enter Try.func80, Try.ntmps80
  go_wp2
  · have h : (n % 2 == 0) = true := by assumption
    go_ret
    exact ⟨ret_int (by rw [zag_even (by simpa using h)]), rfl⟩
  · have h : (n % 2 == 0) = false := by assumption
    go_ret
    exact ⟨ret_int (by rw [zag_odd (by simp at h; omega)]), rfl⟩

/-- a loop's relation: what is counted, and what is left, is the whole -/
def Left (n c u : Nat) : Prop := c + nbits u = nbits n ∧ u ≤ n
theorem left_step {n c u : Nat} (h : Left n c u) (hu : 0 < u) : Left n (c + 1) (u / 2) := by
  obtain ⟨h1, h2⟩ := h
  have := nbits_pos hu
  exact ⟨by omega, by omega⟩
theorem left_end {n c : Nat} (h : Left n c 0) : c = nbits n := by
  obtain ⟨h1, _⟩ := h
  rw [nbits_zero] at h1
  omega
theorem left_le {n c u : Nat} (h2 : n ≤ 18446744073709551615) (h : Left n c u) : c ≤ 64 ∧ u ≤ n := by
  obtain ⟨h1, h3⟩ := h
  have := nbits_lt (u := n) (k := 64) (by omega)
  omega

theorem bits_any (n : Nat) (h2 : n ≤ 18446744073709551615) (w : World) :
    Calls Try.prog 81 #[.int .u64 n] w fun e w' => e = .returned (.int .i64 (nbits n)) ∧ w = w' := by
  go_enter Try.func81, Try.ntmps81
  go_wp2
  go_step3
  go_wp2
  go_step3
  go_wp2
  go_loop [0, 3] (fun u c => ∃ k j : Nat, Left n j k ∧ u = .int .u64 k ∧ c = .int .i64 j) (fun u _ => (intOf u).toNat)
  case atStart => exact ⟨n, 0, ⟨by simp, by omega⟩, rfl, rfl⟩
  case round =>
    obtain ⟨k, j, hr, rfl, rfl⟩ := hrel
    have hb := left_le h2 hr
    by_cases hk : 0 < k
    · have hs := left_step hr hk
      go_wp2
      go_round
      case rel => exact ⟨k / 2, j + 1, hs, by go_num, by go_num⟩
      case measure => simp [intOf]; omega
    · obtain rfl : k = 0 := by omega
      have he := Lib.hid (left_end hr)
      go_wp2
      go_ret
      exact ⟨ret_int (by rw [he.out]), rfl⟩
theorem width_any (n : Int) (h1 : -9223372036854775808 ≤ n) (h2 : n ≤ 9223372036854775807) (w : World) :
    Calls Try.prog 58 #[.int .i64 n] w fun e w' => e = .returned (.int .i64 (parts (zig n).toNat)) ∧ w = w' := by
  have h3 := zig_nonneg n
  have h4 := zig_le n h1 h2
  obtain ⟨u, hu⟩ := Int.eq_ofNat_of_zero_le h3
  have hl := nbits_lt (u := u) (k := 64) (by omega)
  have Hu := Lib.hid hu
  clear hu
  go_enter Try.func58, Try.ntmps58
  go_wp2_with fail
  refine (zig_any n h1 h2 _).mono ?_
  rintro e w' ⟨rfl, rfl⟩
  rw [Hu.out]
  go_wp2_with fail
  refine (bits_any u (by have := Hu.out; omega) _).mono ?_
  rintro e w' ⟨rfl, rfl⟩
  have hp : ((parts (zig n).toNat : Nat) : Int) = max ((((nbits u : Nat) : Int) + 6) / 7) 1 := by
    rw [Hu.out]; unfold parts; simp; omega
  have Hp := Lib.hid hp
  clear hp
  go_wp2
  · go_ret
    exact ⟨ret_int (by rw [Hp.out]; omega), rfl⟩
  · go_ret
    exact ⟨ret_int (by rw [Hp.out]; omega), rfl⟩
def Parted (n c u : Nat) : Prop := c + parts u = parts n + 1 ∧ u ≤ n
theorem parted_step {n c u : Nat} (h : Parted n c u) (hu : 128 ≤ u) : Parted n (c + 1) (u / 128) := by
  obtain ⟨h1, h2⟩ := h
  have := parts_step hu
  exact ⟨by omega, by omega⟩
theorem parted_end {n c u : Nat} (h : Parted n c u) (hu : u < 128) : c = parts n := by
  obtain ⟨h1, _⟩ := h
  have := parts_small hu
  omega
theorem parted_le {n c u : Nat} (h2 : n ≤ 18446744073709551615) (h : Parted n c u) : c ≤ 10 ∧ u ≤ n := by
  obtain ⟨h1, h3⟩ := h
  have := parts_le (u := n) (by omega)
  have := parts_pos u
  omega
set_option maxRecDepth 100000 in
theorem refwidth_any (n : Int) (h1 : -9223372036854775808 ≤ n) (h2 : n ≤ 9223372036854775807) (w : World) :
    Calls Try.prog 57 #[.int .i64 n] w fun e w' => e = .returned (.int .i64 (parts (zig n).toNat)) ∧ w = w' := by
  have h3 := zig_nonneg n
  have h4 := zig_le n h1 h2
  obtain ⟨u, hu⟩ := Int.eq_ofNat_of_zero_le h3
  have Hu := Lib.hid hu
  have hu2 : u ≤ 18446744073709551615 := by omega
  clear hu h3 h4
  go_enter Try.func57, Try.ntmps57
  go_wp2_with fail
  refine (refzig_any n h1 h2 _).mono ?_
  rintro e w' ⟨rfl, rfl⟩
  rw [Hu.out]
  go_wp2_with fail
  go_loop [3, 4] (fun v c => ∃ k j : Nat, Parted u j k ∧ v = .int .u64 k ∧ c = .int .i64 j) (fun v _ => (intOf v).toNat)
  case atStart => exact ⟨u, 1, ⟨by omega, by omega⟩, rfl, rfl⟩
  case round =>
    obtain ⟨k, j, hr, rfl, rfl⟩ := hrel
    have hb := parted_le hu2 hr
    by_cases hk : 128 ≤ k
    · have hs := parted_step hr hk
      go_wp2
      go_round
      case rel => exact ⟨k / 128, j + 1, hs, by go_num, by go_num⟩
      case measure => simp [intOf]; omega
    · have he := Lib.hid (parted_end hr (by omega))
      go_wp2
      go_ret
      exact ⟨ret_int (by rw [he.out, Hu.out]; rfl), rfl⟩
end Go.Proofs.Ytodgnlhakafhoaa.Zg
