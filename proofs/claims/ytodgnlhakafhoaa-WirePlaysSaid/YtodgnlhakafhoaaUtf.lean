/- The layer utf: what its small functions compute. -/
import Derived.Test.YtodgnlhakafhoaaCanM
import Derived.Test.YtodgnlhakafhoaaMemK
import Derived.BigQuiet
import Derived.Deep.QuietTactic
namespace Go.Proofs.Ytodgnlhakafhoaa.Ut
open Go.ChangeShapes Go.WideShapes Go.ChangeAt Go.RowKit
open Num Mem Can

theorem ret_int {k : IntKind} {a b : Int} (h : a = b) : Ending.returned (.int k a) = .returned (.int k b) := by rw [h]

/-- is a number a character? -/
def isCh (c : Int) : Bool := decide (0 ≤ c) && decide (c ≤ 1114111) && (decide (c < 55296) || decide (57343 < c))
theorem isCh_iff (c : Int) : isCh c = true ↔ 0 ≤ c ∧ c ≤ 1114111 ∧ (c < 55296 ∨ 57343 < c) := by unfold isCh; simp [and_assoc]

theorem character_any (c : Int) (h1 : -2147483648 ≤ c) (h2 : c ≤ 2147483647) (w : World) :
    Calls Try.prog 59 #[.int .i32 c] w fun e w' => e = .returned (.bool (isCh c)) ∧ w = w' := by
  obtain ⟨b, hb⟩ : ∃ b, b = isCh c := ⟨_, rfl⟩
  rw [← hb]
  have hi := isCh_iff c
  rw [← hb] at hi
  clear hb
  rcases (show c < 0 ∨ (0 ≤ c ∧ 1114111 < c) ∨ (0 ≤ c ∧ c ≤ 1114111 ∧ c < 55296) ∨ (0 ≤ c ∧ c ≤ 1114111 ∧ ¬ c < 55296 ∧ 57344 ≤ c) ∨ (0 ≤ c ∧ c ≤ 1114111 ∧ ¬ c < 55296 ∧ ¬ 57344 ≤ c) by omega) with h | ⟨h, h'⟩ | ⟨h, h', h''⟩ | ⟨h, h', h'', h3⟩ | ⟨h, h', h'', h3⟩
  · obtain rfl : b = false := by cases b; rfl; exact absurd (hi.1 rfl) (by omega)
    clear hi
    go_enter Try.func59, Try.ntmps59
    go_wp2
    go_ret
    exact ⟨rfl, rfl⟩
  · obtain rfl : b = false := by cases b; rfl; exact absurd (hi.1 rfl) (by omega)
    clear hi
    go_enter Try.func59, Try.ntmps59
    go_wp2
    go_ret
    exact ⟨rfl, rfl⟩
  · obtain rfl : b = true := hi.2 (by omega)
    clear hi
    go_enter Try.func59, Try.ntmps59
    go_wp2
    go_ret
    exact ⟨rfl, rfl⟩
  · obtain rfl : b = true := hi.2 (by omega)
    clear hi
    go_enter Try.func59, Try.ntmps59
    go_wp2
    go_ret
    exact ⟨rfl, rfl⟩
  · obtain rfl : b = false := by cases b; rfl; exact absurd (hi.1 rfl) (by omega)
    clear hi
    go_enter Try.func59, Try.ntmps59
    go_wp2
    go_ret
    exact ⟨rfl, rfl⟩
theorem refcharacter_any (c : Int) (h1 : -9223372036854775808 ≤ c) (h2 : c ≤ 9223372036854775807) (w : World) :
    Calls Try.prog 25 #[.int .i64 c] w fun e w' => e = .returned (.bool (isCh c)) ∧ w = w' := by
  obtain ⟨b, hb⟩ : ∃ b, b = isCh c := ⟨_, rfl⟩
  rw [← hb]
  have hi := isCh_iff c
  rw [← hb] at hi
  clear hb
  rcases (show c < 0 ∨ (0 ≤ c ∧ 1114111 < c) ∨ (0 ≤ c ∧ c ≤ 1114111 ∧ c < 55296) ∨ (0 ≤ c ∧ c ≤ 1114111 ∧ ¬ c < 55296 ∧ 57343 < c) ∨ (0 ≤ c ∧ c ≤ 1114111 ∧ ¬ c < 55296 ∧ ¬ 57343 < c) by omega) with h | ⟨h, h'⟩ | ⟨h, h', h''⟩ | ⟨h, h', h'', h3⟩ | ⟨h, h', h'', h3⟩
  · obtain rfl : b = false := by cases b; rfl; exact absurd (hi.1 rfl) (by omega)
    clear hi
    go_enter Try.func25, Try.ntmps25
    go_wp2
    go_ret
    exact ⟨rfl, rfl⟩
  · obtain rfl : b = false := by cases b; rfl; exact absurd (hi.1 rfl) (by omega)
    clear hi
    go_enter Try.func25, Try.ntmps25
    go_wp2
    go_ret
    exact ⟨rfl, rfl⟩
  · obtain rfl : b = true := hi.2 (by omega)
    clear hi
    go_enter Try.func25, Try.ntmps25
    go_wp2
    go_ret
    exact ⟨rfl, rfl⟩
  · obtain rfl : b = true := hi.2 (by omega)
    clear hi
    go_enter Try.func25, Try.ntmps25
    go_wp2
    go_ret
    exact ⟨rfl, rfl⟩
  · obtain rfl : b = false := by cases b; rfl; exact absurd (hi.1 rfl) (by omega)
    clear hi
    go_enter Try.func25, Try.ntmps25
    go_wp2
    go_ret
    exact ⟨rfl, rfl⟩

theorem least_2 (w : World) : Calls Try.prog 60 #[.int .i64 2] w fun e w' => e = .returned (.int .i32 128) ∧ w = w' := by
  go_enter Try.func60, Try.ntmps60
  go_wp2
  go_ret
  exact ⟨rfl, rfl⟩
theorem least_3 (w : World) : Calls Try.prog 60 #[.int .i64 3] w fun e w' => e = .returned (.int .i32 2048) ∧ w = w' := by
  go_enter Try.func60, Try.ntmps60
  go_wp2
  go_ret
  exact ⟨rfl, rfl⟩
theorem least_4 (w : World) : Calls Try.prog 60 #[.int .i64 4] w fun e w' => e = .returned (.int .i32 65536) ∧ w = w' := by
  go_enter Try.func60, Try.ntmps60
  go_wp2
  go_ret
  exact ⟨rfl, rfl⟩

theorem part_0 (g : Nat) (c : Nat) (_hc : c ≤ 1114111) (w : World) (hcell : w.cell? ⟨g, 0, none⟩ = some (.int .i32 c)) :
    Calls Try.prog 61 #[.int .i64 0, .pointer (some ⟨g, 0, none⟩)] w fun e w' => e = .returned (.int .u8 (128 + c % 64 : Nat)) ∧ w = w' := by
  go_enter Try.func61, Try.ntmps61
  go_wp2
  go_ret
  exact ⟨rfl, rfl⟩
theorem part_1 (g : Nat) (c : Nat) (_hc : c ≤ 1114111) (w : World) (hcell : w.cell? ⟨g, 0, none⟩ = some (.int .i32 c)) :
    Calls Try.prog 61 #[.int .i64 1, .pointer (some ⟨g, 0, none⟩)] w fun e w' => e = .returned (.int .u8 (128 + c / 64 % 64 : Nat)) ∧ w = w' := by
  go_enter Try.func61, Try.ntmps61
  go_wp2
  go_ret
  exact ⟨rfl, rfl⟩
theorem part_2 (g : Nat) (c : Nat) (_hc : c ≤ 1114111) (w : World) (hcell : w.cell? ⟨g, 0, none⟩ = some (.int .i32 c)) :
    Calls Try.prog 61 #[.int .i64 2, .pointer (some ⟨g, 0, none⟩)] w fun e w' => e = .returned (.int .u8 (128 + c / 4096 % 64 : Nat)) ∧ w = w' := by
  go_enter Try.func61, Try.ntmps61
  go_wp2
  go_ret
  exact ⟨rfl, rfl⟩

/-- a quiet call in a region that draws, its contract with the caller's world on the left -/
theorem quiet_left {P : Program} {f : FuncId} {args : Array Value} {w : World} {a n : Nat} {v : Value} (h : Calls P f args (w.drewN (a + n)) fun e w' => e = .returned v ∧ w.drewN (a + n) = w') :
    Calls P f args (w.drewN (a + n)) fun e w'' => e = .returned v ∧ ∃ m, w'' = w.drewN (a + m) :=
  h.mono fun _ _ ⟨he, hm⟩ => ⟨he, n, hm.symm⟩
theorem quiet_left0 {P : Program} {f : FuncId} {args : Array Value} {w : World} {n : Nat} {v : Value} (h : Calls P f args (w.drewN n) fun e w' => e = .returned v ∧ w.drewN n = w') :
    Calls P f args (w.drewN n) fun e w'' => e = .returned v ∧ ∃ m, w'' = w.drewN m :=
  h.mono fun _ _ ⟨he, hm⟩ => ⟨he, n, hm.symm⟩

/-- a character's bytes -/
def uput (c : Nat) : List UInt8 :=
  if c < 128 then [UInt8.ofNat c]
  else if c < 2048 then [UInt8.ofNat (192 + c / 64), UInt8.ofNat (128 + c % 64)]
  else if c < 65536 then [UInt8.ofNat (224 + c / 4096), UInt8.ofNat (128 + c / 64 % 64), UInt8.ofNat (128 + c % 64)]
  else [UInt8.ofNat (240 + c / 262144), UInt8.ofNat (128 + c / 4096 % 64), UInt8.ofNat (128 + c / 64 % 64), UInt8.ofNat (128 + c % 64)]

theorem put_not (A : Option Addr) (k cp : Nat) (c : Int) (h1 : -2147483648 ≤ c) (h2 : c ≤ 2147483647) (hc : isCh c = false) (w : World) :
    Calls Try.prog 24 #[.slice A k cp, .int .i32 c] w fun e w' => e = .returned (.tuple #[.slice A k cp, .int .i64 2]) ∧ Below w.heap.size w w' := by
  have HC := Lib.hid hc
  clear hc
  go_enter Try.func24, Try.ntmps24
  go_wp2_with fail
  refine (character_any c h1 h2 _).mono ?_
  rintro e w' ⟨rfl, rfl⟩
  rw [HC.out]
  go_wp2_with fail
  go_ret2
  exact ⟨rfl, (Below.refl _ _).alloc (Nat.le_refl _) _⟩

end Go.Proofs.Ytodgnlhakafhoaa.Ut
