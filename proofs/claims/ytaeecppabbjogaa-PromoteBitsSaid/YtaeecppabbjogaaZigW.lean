/- The layer zig: the chapter's examples. -/
import Derived.Test.YtaeecppabbjogaaZig
namespace Go.Proofs.Ytaeecppabbjogaa.ZgW
open Go.ChangeShapes Go.WideShapes Go.ChangeAt Go.RowKit
open Num Zg

theorem nb8 : nbits 8 = 4 := by decide +kernel
theorem width_m64 (w : World) : Calls Try.prog 21 #[.int .i64 (-64)] w fun e w' => e = .returned (.int .i64 1) ∧ w = w' := by
  refine (width_any (-64) (by omega) (by omega) w).mono ?_
  rintro e w' ⟨rfl, rfl⟩
  exact ⟨ret_int (by decide +kernel), rfl⟩
theorem width_64 (w : World) : Calls Try.prog 21 #[.int .i64 64] w fun e w' => e = .returned (.int .i64 2) ∧ w = w' := by
  refine (width_any 64 (by omega) (by omega) w).mono ?_
  rintro e w' ⟨rfl, rfl⟩
  exact ⟨ret_int (by decide +kernel), rfl⟩
theorem bits_8 (w : World) : Calls Try.prog 19 #[.int .u64 8] w fun e w' => e = .returned (.int .i64 4) ∧ w = w' := by
  refine (bits_any 8 (by omega) w).mono ?_
  rintro e w' ⟨rfl, rfl⟩
  exact ⟨ret_int (by decide +kernel), rfl⟩

theorem works_any (w : World) :
    Calls Try.prog 16 #[] w fun e w' => e = .returned (.bool true) ∧ w = w' := by
  have e1 : zig (-1) = 1 := by decide +kernel
  have e2 : zig 1 = 2 := by decide +kernel
  have e3 : zag 127 = -64 := by decide +kernel
  have e4 : zig (-2) = 3 := by decide +kernel
  have e5 : zag 4 = 2 := by decide +kernel
  go_enter Try.func16, Try.ntmps16
  go_wp2_with fail
  refine (zig_any (-1) (by omega) (by omega) _).mono ?_
  rintro e w' ⟨rfl, rfl⟩
  go_wp2_with fail
  refine (zig_any 1 (by omega) (by omega) _).mono ?_
  rintro e w' ⟨rfl, rfl⟩
  go_wp2_with fail
  refine (zag_any 127 (by omega) (by omega) _).mono ?_
  rintro e w' ⟨rfl, rfl⟩
  go_wp2_with fail
  refine (zig32_any (-2) (by omega) (by omega) _).mono ?_
  rintro e w' ⟨rfl, rfl⟩
  go_wp2_with fail
  refine (zag32_any 4 (by omega) (by omega) _).mono ?_
  rintro e w' ⟨rfl, rfl⟩
  go_wp2_with fail
  refine (width_m64 _).mono ?_
  rintro e w' ⟨rfl, rfl⟩
  go_wp2_with fail
  refine (width_64 _).mono ?_
  rintro e w' ⟨rfl, rfl⟩
  go_wp2_with fail
  refine (bits_8 _).mono ?_
  rintro e w' ⟨rfl, rfl⟩
  go_wp2_with fail
  go_ret
  exact ⟨rfl, rfl⟩
end Go.Proofs.Ytaeecppabbjogaa.ZgW
