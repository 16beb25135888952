/- The layer varint: the chapter's examples. -/
import Derived.Test.YtodgnlhakafhoaaVarL
namespace Go.Proofs.Ytodgnlhakafhoaa.Vr
open Go.ChangeShapes Go.WideShapes Go.ChangeAt Go.RowKit
open Num Zg Mem

theorem works_any (w : World) :
    Calls Try.prog 15 #[] w fun e w' => e = .returned (.bool true) ∧ Below w.heap.size w w' := by
  have e1 : tkN 10 1 [1, 128, 1] 1 = 64 := by decide +kernel
  have e2 : tkTo 10 1 [1, 128, 1] 1 = 3 := by decide +kernel
  have e3 : tkE 10 1 [1, 128, 1] 1 = 0 := by decide +kernel
  have e4 : tkE 10 1 [128, 0] 0 = 11 := by decide +kernel
  have e5 : tkE 5 15 [128] 0 = 10 := by decide +kernel
  have e6 : vput (zig (-1)).toNat = [1] := by rw [show (zig (-1)).toNat = 1 by decide +kernel, vput_small (by omega)]; rfl
  have e7 : vput (zig 64).toNat = [128, 1] := by rw [show (zig 64).toNat = 128 by decide +kernel, vput_big (by omega), vput_small (by omega)]; rfl
  go_enter Try.func15, Try.ntmps15
  go_wp2_with fail
  refine (Take_any _ _ _ (w.heap.size + 1) 1 [1, 128, 1] _ (rd_lit w [1, 128, 1]) (by simp) (by simp) (by simp)).mono ?_
  rintro e w1 ⟨rfl, hb1⟩
  have s1 := hb1.size
  go_wp2_with fail
  refine (Take_any _ _ _ (w1.heap.size + 1) 0 [128, 0] _ (rd_lit w1 [128, 0]) (by simp) (by simp) (by simp)).mono ?_
  rintro e w2 ⟨rfl, hb2⟩
  have s2 := hb2.size
  go_wp2_with fail
  refine (TakeInt_any _ _ _ (w2.heap.size + 1) 0 [128] _ (rd_lit w2 [128]) (by simp) (by simp) (by simp)).mono ?_
  rintro e w3 ⟨rfl, hb3⟩
  have s3 := hb3.size
  go_wp2_with fail
  refine (put_any (-1) (by omega) (by omega) none 0 0 [] w3.heap.size w3 (Own.nil _ _) (Nat.le_refl _) (by omega)).mono ?_
  rintro e w4 ⟨A4, c4, rfl, ho4, hb4⟩
  have s4 := hb4.size
  rw [e6, List.nil_append] at ho4
  go_wp2_with (with_reducible refine wpl_str rfl rfl ho4.rd ?_)
  refine (put_any 64 (by omega) (by omega) none 0 0 [] w4.heap.size w4 (Own.nil _ _) (Nat.le_refl _) (by omega)).mono ?_
  rintro e w5 ⟨A5, c5, rfl, ho5, hb5⟩
  rw [e7, List.nil_append] at ho5
  go_wp2_with (with_reducible refine wpl_str rfl rfl ho5.rd ?_)
  go_ret
  have hB : w.heap.size ≤ w.heap.size := Nat.le_refl _
  exact ⟨rfl, (((((((((Below.refl _ _).al hB _).thn hB hb1).al hB _).thn hB hb2).al hB _).thn hB hb3).thn hB hb4).thn hB hb5)⟩
end Go.Proofs.Ytodgnlhakafhoaa.Vr
