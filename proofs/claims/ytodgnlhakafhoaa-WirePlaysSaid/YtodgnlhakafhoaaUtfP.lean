/- The layer utf: Put. -/
import Derived.Test.YtodgnlhakafhoaaUtf
namespace Go.Proofs.Ytodgnlhakafhoaa.Ut
open Go.ChangeShapes Go.WideShapes Go.ChangeAt Go.RowKit
open Num Mem Can

set_option maxRecDepth 100000 in
set_option maxHeartbeats 1000000 in
theorem put_1 (A : Option Addr) (k cp base c : Nat) (xs : List UInt8) (h1 : 0 ≤ c) (h2 : c ≤ 127) (hc : isCh c = true) (w : World) (hown : Own w base A k cp xs) (hbase : base ≤ w.heap.size) (hk : k ≤ 1000000000) :
    Calls Try.prog 24 #[.slice A k cp, .int .i32 c] w fun e w' => ∃ A' c', e = .returned (.tuple #[.slice A' (k + 1) c', .int .i64 0]) ∧ Own w' base A' (k + 1) c' (xs ++ uput c) ∧ Below base w w' := by
  have HC := Lib.hid hc
  have hu : uput c = [UInt8.ofNat (c)] := by
    unfold uput
    rw [if_pos (by omega)]
  have HU := Lib.hid hu
  have hx0 : ((UInt8.ofNat (c)).toNat : Int) = ((c : Nat) : Int) := by rw [UInt8.toNat_ofNat']; omega
  have HX0 := Lib.hid hx0
  clear hc hu hx0
  have hd2 : decide ((128 : Int) ≤ (c : Int)) = false := decide_eq_false (by omega)
  have HD2 := Lib.hid hd2
  clear hd2
  go_enter Try.func24, Try.ntmps24
  go_wp2_with fail
  refine (character_any c (by omega) (by omega) _).mono ?_
  rintro e w' ⟨rfl, rfl⟩
  rw [HC.out]
  go_wp2_with fail
  refine wp_loop_rounds 4 ?_
  rw [rounds_succ]
  go_wp2_with fail
  go_quiet ((go_at_call 60; first | exact quiet_left0 (least_2 _) | exact quiet_left (least_2 _)))
  try rw [HD2.out]
  have hO : ∀ m, Own ((w.alloc (.cells #[.int .i32 (c : Int)] 21)).drewN m) base A k cp xs := fun m => (hown.alloc _).drewN m
  have hX : ∀ m, Bx ((w.alloc (.cells #[.int .i32 (c : Int)] 21)).drewN m) A w.heap.size (.int .i32 (c : Int)) := fun m => (Bx.new hown _ _).drewN m
  have hD : ∀ m, Below base w ((w.alloc (.cells #[.int .i32 (c : Int)] 21)).drewN m) := fun m => ((Below.refl _ _).al hbase _).drewN m
  go_wp2_with (at_builtin; go_loud (refine wpl_appk rfl rfl ((hO _).alloc _) rfl (rd_valg _ (UInt8.ofNat (c)) _ _ (by simp) (by rw [HX0.out] <;> omega)) (by omega) (by simp; omega) ((hX _).alloc _) ?_); intro A1 c1 w1 ho1 hb1 hx1)
  have hd1 : Below base w w1 := ((hD _).al hbase _).trans hb1
  have hs1 := hd1.size
  go_ret2
  refine ⟨A1, c1, rfl, ?_, hd1⟩
  rw [HU.out]
  simpa [List.append_assoc] using ho1

set_option maxRecDepth 100000 in
set_option maxHeartbeats 1000000 in
theorem put_2 (A : Option Addr) (k cp base c : Nat) (xs : List UInt8) (h1 : 128 ≤ c) (h2 : c ≤ 2047) (hc : isCh c = true) (w : World) (hown : Own w base A k cp xs) (hbase : base ≤ w.heap.size) (hk : k ≤ 1000000000) :
    Calls Try.prog 24 #[.slice A k cp, .int .i32 c] w fun e w' => ∃ A' c', e = .returned (.tuple #[.slice A' (k + 2) c', .int .i64 0]) ∧ Own w' base A' (k + 2) c' (xs ++ uput c) ∧ Below base w w' := by
  have HC := Lib.hid hc
  have hu : uput c = [UInt8.ofNat (192 + c / 64), UInt8.ofNat (128 + c % 64)] := by
    unfold uput
    rw [if_neg (by omega)]; rw [if_pos (by omega)]
  have HU := Lib.hid hu
  have hx0 : ((UInt8.ofNat (192 + c / 64)).toNat : Int) = ((192 + c / 64 : Nat) : Int) := by rw [UInt8.toNat_ofNat']; omega
  have HX0 := Lib.hid hx0
  have hx1 : ((UInt8.ofNat (128 + c % 64)).toNat : Int) = ((128 + c % 64 : Nat) : Int) := by rw [UInt8.toNat_ofNat']; omega
  have HX1 := Lib.hid hx1
  clear hc hu hx0 hx1
  have hd2 : decide ((128 : Int) ≤ (c : Int)) = true := decide_eq_true (by omega)
  have HD2 := Lib.hid hd2
  clear hd2
  have hd3 : decide ((2048 : Int) ≤ (c : Int)) = false := decide_eq_false (by omega)
  have HD3 := Lib.hid hd3
  clear hd3
  go_enter Try.func24, Try.ntmps24
  go_wp2_with fail
  refine (character_any c (by omega) (by omega) _).mono ?_
  rintro e w' ⟨rfl, rfl⟩
  rw [HC.out]
  go_wp2_with fail
  refine wp_loop_rounds 4 ?_
  rw [rounds_succ]
  go_wp2_with fail
  go_quiet ((go_at_call 60; first | exact quiet_left0 (least_2 _) | exact quiet_left (least_2 _)))
  try rw [HD2.out]
  go_wp2_with fail
  rw [rounds_succ]
  go_wp2_with fail
  go_quiet ((go_at_call 60; first | exact quiet_left0 (least_3 _) | exact quiet_left (least_3 _)))
  try rw [HD3.out]
  have hO : ∀ m, Own ((w.alloc (.cells #[.int .i32 (c : Int)] 21)).drewN m) base A k cp xs := fun m => (hown.alloc _).drewN m
  have hX : ∀ m, Bx ((w.alloc (.cells #[.int .i32 (c : Int)] 21)).drewN m) A w.heap.size (.int .i32 (c : Int)) := fun m => (Bx.new hown _ _).drewN m
  have hD : ∀ m, Below base w ((w.alloc (.cells #[.int .i32 (c : Int)] 21)).drewN m) := fun m => ((Below.refl _ _).al hbase _).drewN m
  go_wp2_with (at_builtin; go_loud (refine wpl_appk rfl rfl ((hO _).alloc _) rfl (rd_valg _ (UInt8.ofNat (192 + c / 64)) _ _ (by simp) (by rw [HX0.out] <;> omega)) (by omega) (by simp; omega) ((hX _).alloc _) ?_); intro A1 c1 w1 ho1 hb1 hx1)
  have hd1 : Below base w w1 := ((hD _).al hbase _).trans hb1
  have hs1 := hd1.size
  refine (part_0 w.heap.size c (by omega) w1 hx1.cell).mono ?_
  rintro e w' ⟨rfl, rfl⟩
  go_wp2_with (at_builtin; go_loud (refine wpl_appk rfl rfl ((ho1).alloc _) rfl (rd_valg _ (UInt8.ofNat (128 + c % 64)) _ _ (by simp) (by rw [HX1.out] <;> omega)) (by omega) (by simp; omega) ((hx1).alloc _) ?_); intro A2 c2 w2 ho2 hb2 hx2)
  have hd2 : Below base w w2 := (hd1.al (by omega) _).trans hb2
  have hs2 := hd2.size
  go_ret2
  refine ⟨A2, c2, rfl, ?_, hd2⟩
  rw [HU.out]
  simpa [List.append_assoc] using ho2

set_option maxRecDepth 100000 in
set_option maxHeartbeats 1000000 in
theorem put_3 (A : Option Addr) (k cp base c : Nat) (xs : List UInt8) (h1 : 2048 ≤ c) (h2 : c ≤ 65535) (hc : isCh c = true) (w : World) (hown : Own w base A k cp xs) (hbase : base ≤ w.heap.size) (hk : k ≤ 1000000000) :
    Calls Try.prog 24 #[.slice A k cp, .int .i32 c] w fun e w' => ∃ A' c', e = .returned (.tuple #[.slice A' (k + 3) c', .int .i64 0]) ∧ Own w' base A' (k + 3) c' (xs ++ uput c) ∧ Below base w w' := by
  have HC := Lib.hid hc
  have hu : uput c = [UInt8.ofNat (224 + c / 4096), UInt8.ofNat (128 + c / 64 % 64), UInt8.ofNat (128 + c % 64)] := by
    unfold uput
    rw [if_neg (by omega)]; rw [if_neg (by omega)]; rw [if_pos (by omega)]
  have HU := Lib.hid hu
  have hx0 : ((UInt8.ofNat (224 + c / 4096)).toNat : Int) = ((224 + c / 4096 : Nat) : Int) := by rw [UInt8.toNat_ofNat']; omega
  have HX0 := Lib.hid hx0
  have hx1 : ((UInt8.ofNat (128 + c / 64 % 64)).toNat : Int) = ((128 + c / 64 % 64 : Nat) : Int) := by rw [UInt8.toNat_ofNat']; omega
  have HX1 := Lib.hid hx1
  have hx2 : ((UInt8.ofNat (128 + c % 64)).toNat : Int) = ((128 + c % 64 : Nat) : Int) := by rw [UInt8.toNat_ofNat']; omega
  have HX2 := Lib.hid hx2
  clear hc hu hx0 hx1 hx2
  have hd2 : decide ((128 : Int) ≤ (c : Int)) = true := decide_eq_true (by omega)
  have HD2 := Lib.hid hd2
  clear hd2
  have hd3 : decide ((2048 : Int) ≤ (c : Int)) = true := decide_eq_true (by omega)
  have HD3 := Lib.hid hd3
  clear hd3
  have hd4 : decide ((65536 : Int) ≤ (c : Int)) = false := decide_eq_false (by omega)
  have HD4 := Lib.hid hd4
  clear hd4
  go_enter Try.func24, Try.ntmps24
  go_wp2_with fail
  refine (character_any c (by omega) (by omega) _).mono ?_
  rintro e w' ⟨rfl, rfl⟩
  rw [HC.out]
  go_wp2_with fail
  refine wp_loop_rounds 4 ?_
  rw [rounds_succ]
  go_wp2_with fail
  go_quiet ((go_at_call 60; first | exact quiet_left0 (least_2 _) | exact quiet_left (least_2 _)))
  try rw [HD2.out]
  go_wp2_with fail
  rw [rounds_succ]
  go_wp2_with fail
  go_quiet ((go_at_call 60; first | exact quiet_left0 (least_3 _) | exact quiet_left (least_3 _)))
  try rw [HD3.out]
  go_wp2_with fail
  rw [rounds_succ]
  go_wp2_with fail
  go_quiet ((go_at_call 60; first | exact quiet_left0 (least_4 _) | exact quiet_left (least_4 _)))
  try rw [HD4.out]
  have hO : ∀ m, Own ((w.alloc (.cells #[.int .i32 (c : Int)] 21)).drewN m) base A k cp xs := fun m => (hown.alloc _).drewN m
  have hX : ∀ m, Bx ((w.alloc (.cells #[.int .i32 (c : Int)] 21)).drewN m) A w.heap.size (.int .i32 (c : Int)) := fun m => (Bx.new hown _ _).drewN m
  have hD : ∀ m, Below base w ((w.alloc (.cells #[.int .i32 (c : Int)] 21)).drewN m) := fun m => ((Below.refl _ _).al hbase _).drewN m
  go_wp2_with (at_builtin; go_loud (refine wpl_appk rfl rfl ((hO _).alloc _) rfl (rd_valg _ (UInt8.ofNat (224 + c / 4096)) _ _ (by simp) (by rw [HX0.out] <;> omega)) (by omega) (by simp; omega) ((hX _).alloc _) ?_); intro A1 c1 w1 ho1 hb1 hx1)
  have hd1 : Below base w w1 := ((hD _).al hbase _).trans hb1
  have hs1 := hd1.size
  refine (part_1 w.heap.size c (by omega) w1 hx1.cell).mono ?_
  rintro e w' ⟨rfl, rfl⟩
  go_wp2_with (at_builtin; go_loud (refine wpl_appk rfl rfl ((ho1).alloc _) rfl (rd_valg _ (UInt8.ofNat (128 + c / 64 % 64)) _ _ (by simp) (by rw [HX1.out] <;> omega)) (by omega) (by simp; omega) ((hx1).alloc _) ?_); intro A2 c2 w2 ho2 hb2 hx2)
  have hd2 : Below base w w2 := (hd1.al (by omega) _).trans hb2
  have hs2 := hd2.size
  refine (part_0 w.heap.size c (by omega) w2 hx2.cell).mono ?_
  rintro e w' ⟨rfl, rfl⟩
  go_wp2_with (at_builtin; go_loud (refine wpl_appk rfl rfl ((ho2).alloc _) rfl (rd_valg _ (UInt8.ofNat (128 + c % 64)) _ _ (by simp) (by rw [HX2.out] <;> omega)) (by omega) (by simp; omega) ((hx2).alloc _) ?_); intro A3 c3 w3 ho3 hb3 hx3)
  have hd3 : Below base w w3 := (hd2.al (by omega) _).trans hb3
  have hs3 := hd3.size
  go_ret2
  refine ⟨A3, c3, rfl, ?_, hd3⟩
  rw [HU.out]
  simpa [List.append_assoc] using ho3

set_option maxRecDepth 100000 in
set_option maxHeartbeats 1000000 in
theorem put_4 (A : Option Addr) (k cp base c : Nat) (xs : List UInt8) (h1 : 65536 ≤ c) (h2 : c ≤ 1114111) (hc : isCh c = true) (w : World) (hown : Own w base A k cp xs) (hbase : base ≤ w.heap.size) (hk : k ≤ 1000000000) :
    Calls Try.prog 24 #[.slice A k cp, .int .i32 c] w fun e w' => ∃ A' c', e = .returned (.tuple #[.slice A' (k + 4) c', .int .i64 0]) ∧ Own w' base A' (k + 4) c' (xs ++ uput c) ∧ Below base w w' := by
  have HC := Lib.hid hc
  have hu : uput c = [UInt8.ofNat (240 + c / 262144), UInt8.ofNat (128 + c / 4096 % 64), UInt8.ofNat (128 + c / 64 % 64), UInt8.ofNat (128 + c % 64)] := by
    unfold uput
    rw [if_neg (by omega)]; rw [if_neg (by omega)]; rw [if_neg (by omega)]
  have HU := Lib.hid hu
  have hx0 : ((UInt8.ofNat (240 + c / 262144)).toNat : Int) = ((240 + c / 262144 : Nat) : Int) := by rw [UInt8.toNat_ofNat']; omega
  have HX0 := Lib.hid hx0
  have hx1 : ((UInt8.ofNat (128 + c / 4096 % 64)).toNat : Int) = ((128 + c / 4096 % 64 : Nat) : Int) := by rw [UInt8.toNat_ofNat']; omega
  have HX1 := Lib.hid hx1
  have hx2 : ((UInt8.ofNat (128 + c / 64 % 64)).toNat : Int) = ((128 + c / 64 % 64 : Nat) : Int) := by rw [UInt8.toNat_ofNat']; omega
  have HX2 := Lib.hid hx2
  have hx3 : ((UInt8.ofNat (128 + c % 64)).toNat : Int) = ((128 + c % 64 : Nat) : Int) := by rw [UInt8.toNat_ofNat']; omega
  have HX3 := Lib.hid hx3
  clear hc hu hx0 hx1 hx2 hx3
  have hd2 : decide ((128 : Int) ≤ (c : Int)) = true := decide_eq_true (by omega)
  have HD2 := Lib.hid hd2
  clear hd2
  have hd3 : decide ((2048 : Int) ≤ (c : Int)) = true := decide_eq_true (by omega)
  have HD3 := Lib.hid hd3
  clear hd3
  have hd4 : decide ((65536 : Int) ≤ (c : Int)) = true := decide_eq_true (by omega)
  have HD4 := Lib.hid hd4
  clear hd4
  go_enter Try.func24, Try.ntmps24
  go_wp2_with fail
  refine (character_any c (by omega) (by omega) _).mono ?_
  rintro e w' ⟨rfl, rfl⟩
  rw [HC.out]
  go_wp2_with fail
  refine wp_loop_rounds 4 ?_
  rw [rounds_succ]
  go_wp2_with fail
  go_quiet ((go_at_call 60; first | exact quiet_left0 (least_2 _) | exact quiet_left (least_2 _)))
  try rw [HD2.out]
  go_wp2_with fail
  rw [rounds_succ]
  go_wp2_with fail
  go_quiet ((go_at_call 60; first | exact quiet_left0 (least_3 _) | exact quiet_left (least_3 _)))
  try rw [HD3.out]
  go_wp2_with fail
  rw [rounds_succ]
  go_wp2_with fail
  go_quiet ((go_at_call 60; first | exact quiet_left0 (least_4 _) | exact quiet_left (least_4 _)))
  try rw [HD4.out]
  go_wp2_with fail
  rw [rounds_succ]
  go_wp2_with fail
  go_quiet (fail)
  have hO : ∀ m, Own ((w.alloc (.cells #[.int .i32 (c : Int)] 21)).drewN m) base A k cp xs := fun m => (hown.alloc _).drewN m
  have hX : ∀ m, Bx ((w.alloc (.cells #[.int .i32 (c : Int)] 21)).drewN m) A w.heap.size (.int .i32 (c : Int)) := fun m => (Bx.new hown _ _).drewN m
  have hD : ∀ m, Below base w ((w.alloc (.cells #[.int .i32 (c : Int)] 21)).drewN m) := fun m => ((Below.refl _ _).al hbase _).drewN m
  go_wp2_with (at_builtin; go_loud (refine wpl_appk rfl rfl ((hO _).alloc _) rfl (rd_valg _ (UInt8.ofNat (240 + c / 262144)) _ _ (by simp) (by rw [HX0.out] <;> omega)) (by omega) (by simp; omega) ((hX _).alloc _) ?_); intro A1 c1 w1 ho1 hb1 hx1)
  have hd1 : Below base w w1 := ((hD _).al hbase _).trans hb1
  have hs1 := hd1.size
  refine (part_2 w.heap.size c (by omega) w1 hx1.cell).mono ?_
  rintro e w' ⟨rfl, rfl⟩
  go_wp2_with (at_builtin; go_loud (refine wpl_appk rfl rfl ((ho1).alloc _) rfl (rd_valg _ (UInt8.ofNat (128 + c / 4096 % 64)) _ _ (by simp) (by rw [HX1.out] <;> omega)) (by omega) (by simp; omega) ((hx1).alloc _) ?_); intro A2 c2 w2 ho2 hb2 hx2)
  have hd2 : Below base w w2 := (hd1.al (by omega) _).trans hb2
  have hs2 := hd2.size
  refine (part_1 w.heap.size c (by omega) w2 hx2.cell).mono ?_
  rintro e w' ⟨rfl, rfl⟩
  go_wp2_with (at_builtin; go_loud (refine wpl_appk rfl rfl ((ho2).alloc _) rfl (rd_valg _ (UInt8.ofNat (128 + c / 64 % 64)) _ _ (by simp) (by rw [HX2.out] <;> omega)) (by omega) (by simp; omega) ((hx2).alloc _) ?_); intro A3 c3 w3 ho3 hb3 hx3)
  have hd3 : Below base w w3 := (hd2.al (by omega) _).trans hb3
  have hs3 := hd3.size
  refine (part_0 w.heap.size c (by omega) w3 hx3.cell).mono ?_
  rintro e w' ⟨rfl, rfl⟩
  go_wp2_with (at_builtin; go_loud (refine wpl_appk rfl rfl ((ho3).alloc _) rfl (rd_valg _ (UInt8.ofNat (128 + c % 64)) _ _ (by simp) (by rw [HX3.out] <;> omega)) (by omega) (by simp; omega) ((hx3).alloc _) ?_); intro A4 c4 w4 ho4 hb4 hx4)
  have hd4 : Below base w w4 := (hd3.al (by omega) _).trans hb4
  have hs4 := hd4.size
  go_ret2
  refine ⟨A4, c4, rfl, ?_, hd4⟩
  rw [HU.out]
  simpa [List.append_assoc] using ho4
end Go.Proofs.Ytodgnlhakafhoaa.Ut
