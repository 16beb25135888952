/- The layer utf: the small functions around Take, and Take. -/
import Derived.Test.YtodgnlhakafhoaaUtfT
namespace Go.Proofs.Ytodgnlhakafhoaa.Ut
open Go.ChangeShapes Go.WideShapes Go.ChangeAt Go.RowKit
open Num Mem Can

set_option maxRecDepth 100000 in
theorem first_any (a : Nat) (ha : a < 256) (w : World) :
    Calls Try.prog 62 #[.int .u8 a] w fun e w' => e = .returned (.tuple #[.int .i64 (ufst a).1, .int .i32 (ufst a).2]) ∧ w = w' := by
  rcases (show a < 128 ∨ (128 ≤ a ∧ a < 194) ∨ (194 ≤ a ∧ a < 224) ∨ (224 ≤ a ∧ a < 240) ∨ (240 ≤ a ∧ a < 245) ∨ 245 ≤ a by omega) with h | ⟨h, h'⟩ | ⟨h, h'⟩ | ⟨h, h'⟩ | ⟨h, h'⟩ | h
  · rw [ufst_1 h]
    go_enter Try.func62, Try.ntmps62
    go_wp2
    go_ret2
    exact ⟨rfl, rfl⟩
  · rw [ufst_0 h h']
    go_enter Try.func62, Try.ntmps62
    go_wp2
    go_ret2
    exact ⟨rfl, rfl⟩
  · rw [ufst_2 h h']
    go_enter Try.func62, Try.ntmps62
    go_wp2
    go_ret2
    exact ⟨rfl, rfl⟩
  · rw [ufst_3 h h']
    go_enter Try.func62, Try.ntmps62
    go_wp2
    go_ret2
    exact ⟨rfl, rfl⟩
  · rw [ufst_4 h h']
    go_enter Try.func62, Try.ntmps62
    go_wp2
    go_ret2
    exact ⟨rfl, rfl⟩
  · rw [ufst_5 h]
    go_enter Try.func62, Try.ntmps62
    go_wp2
    go_ret2
    exact ⟨rfl, rfl⟩

set_option maxRecDepth 100000 in
theorem second_any (a b : Nat) (ha : a < 256) (hb : b < 256) (w : World) :
    Calls Try.prog 63 #[.int .u8 a, .int .u8 b] w fun e w' => e = .returned (.bool (usec a b)) ∧ w = w' := by
  have hi := usec_iff a b
  obtain ⟨r, hr⟩ : ∃ r, r = usec a b := ⟨_, rfl⟩
  rw [← hr] at hi ⊢
  clear hr
  rcases (show a = 224 ∨ a = 237 ∨ a = 240 ∨ a = 244 ∨ (a ≠ 224 ∧ a ≠ 237 ∧ a ≠ 240 ∧ a ≠ 244) by omega) with h | h | h | h | ⟨h1, h2, h3, h4⟩
  · rcases (show b < 160 ∨ (160 ≤ b ∧ b ≤ 191) ∨ (160 ≤ b ∧ ¬ b ≤ 191) by omega) with q | ⟨q, q'⟩ | ⟨q, q'⟩
    · obtain rfl : r = false := by cases r; rfl; exact absurd (hi.1 rfl) (by omega)
      clear hi
      subst h
      go_enter Try.func63, Try.ntmps63
      go_wp2
      go_ret
      exact ⟨by first | rfl | (simp [Ending.returned.injEq]; omega), rfl⟩
    · obtain rfl : r = true := hi.2 (by omega)
      clear hi
      subst h
      go_enter Try.func63, Try.ntmps63
      go_wp2
      go_ret
      exact ⟨by first | rfl | (simp [Ending.returned.injEq]; omega), rfl⟩
    · obtain rfl : r = false := by cases r; rfl; exact absurd (hi.1 rfl) (by omega)
      clear hi
      subst h
      go_enter Try.func63, Try.ntmps63
      go_wp2
      go_ret
      exact ⟨by first | rfl | (simp [Ending.returned.injEq]; omega), rfl⟩
  · rcases (show b < 128 ∨ (128 ≤ b ∧ b ≤ 159) ∨ (128 ≤ b ∧ ¬ b ≤ 159) by omega) with q | ⟨q, q'⟩ | ⟨q, q'⟩
    · obtain rfl : r = false := by cases r; rfl; exact absurd (hi.1 rfl) (by omega)
      clear hi
      subst h
      go_enter Try.func63, Try.ntmps63
      go_wp2
      go_ret
      exact ⟨by first | rfl | (simp [Ending.returned.injEq]; omega), rfl⟩
    · obtain rfl : r = true := hi.2 (by omega)
      clear hi
      subst h
      go_enter Try.func63, Try.ntmps63
      go_wp2
      go_ret
      exact ⟨by first | rfl | (simp [Ending.returned.injEq]; omega), rfl⟩
    · obtain rfl : r = false := by cases r; rfl; exact absurd (hi.1 rfl) (by omega)
      clear hi
      subst h
      go_enter Try.func63, Try.ntmps63
      go_wp2
      go_ret
      exact ⟨by first | rfl | (simp [Ending.returned.injEq]; omega), rfl⟩
  · rcases (show b < 144 ∨ (144 ≤ b ∧ b ≤ 191) ∨ (144 ≤ b ∧ ¬ b ≤ 191) by omega) with q | ⟨q, q'⟩ | ⟨q, q'⟩
    · obtain rfl : r = false := by cases r; rfl; exact absurd (hi.1 rfl) (by omega)
      clear hi
      subst h
      go_enter Try.func63, Try.ntmps63
      go_wp2
      go_ret
      exact ⟨by first | rfl | (simp [Ending.returned.injEq]; omega), rfl⟩
    · obtain rfl : r = true := hi.2 (by omega)
      clear hi
      subst h
      go_enter Try.func63, Try.ntmps63
      go_wp2
      go_ret
      exact ⟨by first | rfl | (simp [Ending.returned.injEq]; omega), rfl⟩
    · obtain rfl : r = false := by cases r; rfl; exact absurd (hi.1 rfl) (by omega)
      clear hi
      subst h
      go_enter Try.func63, Try.ntmps63
      go_wp2
      go_ret
      exact ⟨by first | rfl | (simp [Ending.returned.injEq]; omega), rfl⟩
  · rcases (show b < 128 ∨ (128 ≤ b ∧ b ≤ 143) ∨ (128 ≤ b ∧ ¬ b ≤ 143) by omega) with q | ⟨q, q'⟩ | ⟨q, q'⟩
    · obtain rfl : r = false := by cases r; rfl; exact absurd (hi.1 rfl) (by omega)
      clear hi
      subst h
      go_enter Try.func63, Try.ntmps63
      go_wp2
      go_ret
      exact ⟨by first | rfl | (simp [Ending.returned.injEq]; omega), rfl⟩
    · obtain rfl : r = true := hi.2 (by omega)
      clear hi
      subst h
      go_enter Try.func63, Try.ntmps63
      go_wp2
      go_ret
      exact ⟨by first | rfl | (simp [Ending.returned.injEq]; omega), rfl⟩
    · obtain rfl : r = false := by cases r; rfl; exact absurd (hi.1 rfl) (by omega)
      clear hi
      subst h
      go_enter Try.func63, Try.ntmps63
      go_wp2
      go_ret
      exact ⟨by first | rfl | (simp [Ending.returned.injEq]; omega), rfl⟩
  · rcases (show b < 128 ∨ (128 ≤ b ∧ b ≤ 191) ∨ (128 ≤ b ∧ ¬ b ≤ 191) by omega) with q | ⟨q, q'⟩ | ⟨q, q'⟩
    · obtain rfl : r = false := by cases r; rfl; exact absurd (hi.1 rfl) (by omega)
      clear hi
      have e1 : ((a : Int) == 224) = false := by simp; omega
      have e2 : ((a : Int) == 237) = false := by simp; omega
      have e3 : ((a : Int) == 240) = false := by simp; omega
      have e4 : ((a : Int) == 244) = false := by simp; omega
      clear h1 h2 h3 h4
      go_enter Try.func63, Try.ntmps63
      go_wp2
      go_ret
      exact ⟨by first | rfl | (simp [Ending.returned.injEq]; omega), rfl⟩
    · obtain rfl : r = true := hi.2 (by omega)
      clear hi
      have e1 : ((a : Int) == 224) = false := by simp; omega
      have e2 : ((a : Int) == 237) = false := by simp; omega
      have e3 : ((a : Int) == 240) = false := by simp; omega
      have e4 : ((a : Int) == 244) = false := by simp; omega
      clear h1 h2 h3 h4
      go_enter Try.func63, Try.ntmps63
      go_wp2
      go_ret
      exact ⟨by first | rfl | (simp [Ending.returned.injEq]; omega), rfl⟩
    · obtain rfl : r = false := by cases r; rfl; exact absurd (hi.1 rfl) (by omega)
      clear hi
      have e1 : ((a : Int) == 224) = false := by simp; omega
      have e2 : ((a : Int) == 237) = false := by simp; omega
      have e3 : ((a : Int) == 240) = false := by simp; omega
      have e4 : ((a : Int) == 244) = false := by simp; omega
      clear h1 h2 h3 h4
      go_enter Try.func63, Try.ntmps63
      go_wp2
      go_ret
      exact ⟨by first | rfl | (simp [Ending.returned.injEq]; omega), rfl⟩
end Go.Proofs.Ytodgnlhakafhoaa.Ut
