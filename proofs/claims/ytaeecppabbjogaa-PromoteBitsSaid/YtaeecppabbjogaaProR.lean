/- The layer promote: what the document's functions compute. -/
import Derived.Test.YtaeecppabbjogaaProF
import Derived.Laws.Externs
namespace Go.Proofs.Ytaeecppabbjogaa.Pro
open Go.ChangeShapes Go.WideShapes Go.ChangeAt Go.RowKit
open Num ProN

theorem x64bits (b : Nat) (w : World) : (callFunc 37 #[.float .f64 b]).run Try.prog w = .ok (.value (.int .u64 b)) w := by
  rw [run_callFunc_extern (e := Extern.MathFloatBits.float64bits) Try.func37 (by kernel_rfl) (by kernel_rfl) (by kernel_rfl) (by kernel_rfl)]; rfl
theorem x32bits (b : Nat) (w : World) : (callFunc 38 #[.float .f32 b]).run Try.prog w = .ok (.value (.int .u32 b)) w := by
  rw [run_callFunc_extern (e := Extern.MathFloatBits.float32bits) Try.func38 (by kernel_rfl) (by kernel_rfl) (by kernel_rfl) (by kernel_rfl)]; rfl
theorem x64from (b : Nat) (w : World) : (callFunc 39 #[.int .u64 b]).run Try.prog w = .ok (.value (.float .f64 b)) w := by
  rw [run_callFunc_extern (e := Extern.MathFloatBits.float64frombits) Try.func39 (by kernel_rfl) (by kernel_rfl) (by kernel_rfl) (by kernel_rfl)]; rfl
theorem x32from (b : Nat) (w : World) : (callFunc 41 #[.int .u32 b]).run Try.prog w = .ok (.value (.float .f32 b)) w := by
  rw [run_callFunc_extern (e := Extern.MathFloatBits.float32frombits) Try.func41 (by kernel_rfl) (by kernel_rfl) (by kernel_rfl) (by kernel_rfl)]; rfl

theorem refdouble_any (n : Int) (h1 : -9223372036854775808 ≤ n) (h2 : n ≤ 9223372036854775807) (w : World) :
    Calls Try.prog 30 #[.int .i64 n] w fun e w' => e = .returned (.int .u64 (dbl n)) ∧ w = w' := by
  have hx := x64bits
  have hc := of_int64 n h1 h2
  have HC := Lib.hid hc
  clear hc
  go_enter Try.func30, Try.ntmps30
  go_wp2
  go_ret
  exact ⟨by rw [← HC.out]; rfl, rfl⟩
theorem reffloat_any (n : Int) (h1 : -9223372036854775808 ≤ n) (h2 : n ≤ 9223372036854775807) (w : World) :
    Calls Try.prog 31 #[.int .i64 n] w fun e w' => e = .returned (.int .u32 (flt n)) ∧ w = w' := by
  have hx := x32bits
  have hc := of_int32 n h1 h2
  have HC := Lib.hid hc
  clear hc
  go_enter Try.func31, Try.ntmps31
  go_wp2
  go_ret
  exact ⟨by rw [← HC.out]; rfl, rfl⟩
end Go.Proofs.Ytaeecppabbjogaa.Pro
