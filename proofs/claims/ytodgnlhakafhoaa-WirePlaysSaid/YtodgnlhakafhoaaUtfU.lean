/- The layer utf: the document's Put. -/
import Derived.Test.YtodgnlhakafhoaaUtfS
namespace Go.Proofs.Ytodgnlhakafhoaa.Ut
open Go.ChangeShapes Go.WideShapes Go.ChangeAt Go.RowKit
open Num Mem Can

set_option maxRecDepth 100000 in
theorem refput_any (c : Nat) (h2 : c ≤ 1114111) (base : Nat) (w : World) (hbase : base ≤ w.heap.size) :
    Calls Try.prog 26 #[.int .i64 c] w fun e w' => ∃ A' n' c', e = .returned (.slice A' n' c') ∧ n' = (uput c).length ∧ Own w' base A' n' c' (uput c) ∧ Below w.heap.size w w' := by
  rcases (show c < 128 ∨ (128 ≤ c ∧ c < 2048) ∨ (2048 ≤ c ∧ c < 65536) ∨ 65536 ≤ c by omega) with h | ⟨h, h'⟩ | ⟨h, h'⟩ | h
  · have hu : uput c = [UInt8.ofNat (c)] := by
      unfold uput
      rw [if_pos h]
    have hx0 : ((UInt8.ofNat (c)).toNat : Int) = ((c : Nat) : Int) := by rw [UInt8.toNat_ofNat']; omega
    have hl := Own.lit w base (uput c) hbase (by rw [hu]; simp [maxLen])
    have hcells : (cells (uput c)).toArray = #[.int .u8 ((c : Nat) : Int)] := by
      rw [hu]; simp only [cells, bc, List.map_cons, List.map_nil, hx0]
    rw [hcells] at hl
    have hlen : (uput c).length = 1 := by rw [hu]; rfl
    rw [hlen] at hl ⊢
    have HL := Lib.hid hl
    generalize uput c = U at HL
    clear hu hcells hl hlen hx0
    go_enter Try.func26, Try.ntmps26
    go_wp2
    go_ret
    exact ⟨_, _, _, rfl, rfl, HL.out, (Below.refl _ _).alloc (Nat.le_refl _) _⟩
  · have hu : uput c = [UInt8.ofNat (192 + c / 64), UInt8.ofNat (128 + c % 64)] := by
      unfold uput
      rw [if_neg (by omega)]; rw [if_pos (by omega)]
    have hx0 : ((UInt8.ofNat (192 + c / 64)).toNat : Int) = ((192 + c / 64 : Nat) : Int) := by rw [UInt8.toNat_ofNat']; omega
    have hx1 : ((UInt8.ofNat (128 + c % 64)).toNat : Int) = ((128 + c % 64 : Nat) : Int) := by rw [UInt8.toNat_ofNat']; omega
    have hl := Own.lit w base (uput c) hbase (by rw [hu]; simp [maxLen])
    have hcells : (cells (uput c)).toArray = #[.int .u8 ((192 + c / 64 : Nat) : Int), .int .u8 ((128 + c % 64 : Nat) : Int)] := by
      rw [hu]; simp only [cells, bc, List.map_cons, List.map_nil, hx0, hx1]
    rw [hcells] at hl
    have hlen : (uput c).length = 2 := by rw [hu]; rfl
    rw [hlen] at hl ⊢
    have HL := Lib.hid hl
    generalize uput c = U at HL
    clear hu hcells hl hlen hx0 hx1
    go_enter Try.func26, Try.ntmps26
    go_wp2
    go_ret
    exact ⟨_, _, _, rfl, rfl, HL.out, (Below.refl _ _).alloc (Nat.le_refl _) _⟩
  · have hu : uput c = [UInt8.ofNat (224 + c / 4096), UInt8.ofNat (128 + c / 64 % 64), UInt8.ofNat (128 + c % 64)] := by
      unfold uput
      rw [if_neg (by omega)]; rw [if_neg (by omega)]; rw [if_pos (by omega)]
    have hx0 : ((UInt8.ofNat (224 + c / 4096)).toNat : Int) = ((224 + c / 4096 : Nat) : Int) := by rw [UInt8.toNat_ofNat']; omega
    have hx1 : ((UInt8.ofNat (128 + c / 64 % 64)).toNat : Int) = ((128 + c / 64 % 64 : Nat) : Int) := by rw [UInt8.toNat_ofNat']; omega
    have hx2 : ((UInt8.ofNat (128 + c % 64)).toNat : Int) = ((128 + c % 64 : Nat) : Int) := by rw [UInt8.toNat_ofNat']; omega
    have hl := Own.lit w base (uput c) hbase (by rw [hu]; simp [maxLen])
    have hcells : (cells (uput c)).toArray = #[.int .u8 ((224 + c / 4096 : Nat) : Int), .int .u8 ((128 + c / 64 % 64 : Nat) : Int), .int .u8 ((128 + c % 64 : Nat) : Int)] := by
      rw [hu]; simp only [cells, bc, List.map_cons, List.map_nil, hx0, hx1, hx2]
    rw [hcells] at hl
    have hlen : (uput c).length = 3 := by rw [hu]; rfl
    rw [hlen] at hl ⊢
    have HL := Lib.hid hl
    generalize uput c = U at HL
    clear hu hcells hl hlen hx0 hx1 hx2
    have i128 : decide ((c : Int) < 128) = false := decide_eq_false (by omega)
    have i2048 : decide ((c : Int) < 2048) = false := decide_eq_false (by omega)
    have i65536 : decide ((c : Int) < 65536) = true := decide_eq_true (by omega)
    have e0 : (224 + (c : Int) / 4096) % 256 = ((224 + c / 4096 : Nat) : Int) := by omega
    have E0 := Lib.hid e0
    clear e0 h h'
    go_enter Try.func26, Try.ntmps26
    go_wp2
    rw [E0.out]
    go_ret
    exact ⟨_, _, _, rfl, rfl, HL.out, (Below.refl _ _).alloc (Nat.le_refl _) _⟩
  · have hu : uput c = [UInt8.ofNat (240 + c / 262144), UInt8.ofNat (128 + c / 4096 % 64), UInt8.ofNat (128 + c / 64 % 64), UInt8.ofNat (128 + c % 64)] := by
      unfold uput
      rw [if_neg (by omega)]; rw [if_neg (by omega)]; rw [if_neg (by omega)]
    have hx0 : ((UInt8.ofNat (240 + c / 262144)).toNat : Int) = ((240 + c / 262144 : Nat) : Int) := by rw [UInt8.toNat_ofNat']; omega
    have hx1 : ((UInt8.ofNat (128 + c / 4096 % 64)).toNat : Int) = ((128 + c / 4096 % 64 : Nat) : Int) := by rw [UInt8.toNat_ofNat']; omega
    have hx2 : ((UInt8.ofNat (128 + c / 64 % 64)).toNat : Int) = ((128 + c / 64 % 64 : Nat) : Int) := by rw [UInt8.toNat_ofNat']; omega
    have hx3 : ((UInt8.ofNat (128 + c % 64)).toNat : Int) = ((128 + c % 64 : Nat) : Int) := by rw [UInt8.toNat_ofNat']; omega
    have hl := Own.lit w base (uput c) hbase (by rw [hu]; simp [maxLen])
    have hcells : (cells (uput c)).toArray = #[.int .u8 ((240 + c / 262144 : Nat) : Int), .int .u8 ((128 + c / 4096 % 64 : Nat) : Int), .int .u8 ((128 + c / 64 % 64 : Nat) : Int), .int .u8 ((128 + c % 64 : Nat) : Int)] := by
      rw [hu]; simp only [cells, bc, List.map_cons, List.map_nil, hx0, hx1, hx2, hx3]
    rw [hcells] at hl
    have hlen : (uput c).length = 4 := by rw [hu]; rfl
    rw [hlen] at hl ⊢
    have HL := Lib.hid hl
    generalize uput c = U at HL
    clear hu hcells hl hlen hx0 hx1 hx2 hx3
    have i128 : decide ((c : Int) < 128) = false := decide_eq_false (by omega)
    have i2048 : decide ((c : Int) < 2048) = false := decide_eq_false (by omega)
    have i65536 : decide ((c : Int) < 65536) = false := decide_eq_false (by omega)
    clear h
    go_enter Try.func26, Try.ntmps26
    go_wp2
    go_ret
    exact ⟨_, _, _, rfl, rfl, HL.out, (Below.refl _ _).alloc (Nat.le_refl _) _⟩
end Go.Proofs.Ytodgnlhakafhoaa.Ut
