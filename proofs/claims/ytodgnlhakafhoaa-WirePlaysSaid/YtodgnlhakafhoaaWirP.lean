/- The layer wire: what is put. -/
import Derived.Test.YtodgnlhakafhoaaWirW
import Derived.Test.YtodgnlhakafhoaaVarP
namespace Go.Proofs.Ytodgnlhakafhoaa.Wr
open Go.ChangeShapes Go.WideShapes Go.ChangeAt Go.RowKit
open Num Mem

theorem own_any (A : Option Addr) (n c B : Nat) (xs : List UInt8) (w : World) (hr : Rd w B A n xs) (hB : B ≤ w.heap.size) (hn : n ≤ 1000000000) :
    Calls Try.prog 37 #[.slice A n c] w fun e w' => ∃ A' c', e = .returned (.slice A' n c') ∧ Own w' w.heap.size A' n c' xs ∧ Below w.heap.size w w' := by
  go_enter Try.func37, Try.ntmps37
  go_wp2_with (at_builtin; refine wpl_app rfl rfl (Own.lit w w.heap.size [] (Nat.le_refl _) (by simp)) rfl (hr.alloc hB _) (by omega) (by simp) ?_; intro A4 c4 w4 ho4 hb4; simp only [Nat.zero_add, List.nil_append] at ho4)
  go_ret
  exact ⟨A4, c4, rfl, ho4, ((Below.refl _ _).al (Nat.le_refl _) _).trans hb4⟩

def tb (v : Int) : UInt8 := if v = 0 then 0 else 1
theorem putbool_any (A : Option Addr) (n c base : Nat) (v : Int) (xs : List UInt8) (w : World) (hown : Own w base A n c xs) (hbase : base ≤ w.heap.size) (hn : n ≤ 1000000000) :
    Calls Try.prog 36 #[.slice A n c, .int .i64 v] w fun e w' => ∃ A' c', e = .returned (.slice A' (n + 1) c') ∧ Own w' base A' (n + 1) c' (xs ++ [tb v]) ∧ Below base w w' := by
  unfold tb
  by_cases h : v = 0
  · subst h
    rw [if_pos rfl]
    go_enter Try.func36, Try.ntmps36
    go_wp2_with (at_builtin; refine wpl_app rfl rfl (hown.alloc _) rfl (rd_val w 0 0 rfl) (by omega) (by simp; omega) ?_; intro A4 c4 w4 ho4 hb4)
    go_ret
    exact ⟨A4, c4, rfl, ho4, ((Below.refl _ _).al hbase _).trans hb4⟩
  · rw [if_neg h]
    have h2 : (v != 0) = true := by simp [h]
    go_enter Try.func36, Try.ntmps36
    go_wp2_with (at_builtin; refine wpl_app rfl rfl (hown.alloc _) rfl (rd_val w 1 1 rfl) (by omega) (by simp; omega) ?_; intro A4 c4 w4 ho4 hb4)
    go_ret
    exact ⟨A4, c4, rfl, ho4, ((Below.refl _ _).al hbase _).trans hb4⟩

def lbs (u k : Nat) : List UInt8 := (List.range k).map fun j => UInt8.ofNat (u / 256 ^ j % 256)
theorem lbs_succ (u k : Nat) : lbs u (k + 1) = lbs u k ++ [UInt8.ofNat (u / 256 ^ k % 256)] := by unfold lbs; rw [List.range_succ, List.map_append]; rfl
theorem lbs_len (u k : Nat) : (lbs u k).length = k := by unfold lbs; simp


set_option maxRecDepth 100000 in
theorem putbits_neg (A : Option Addr) (n c base u : Nat) (s : Int) (hs : s < 0) (xs : List UInt8) (w : World) (hown : Own w base A n c xs) :
    Calls Try.prog 38 #[.slice A n c, .int .u64 u, .int .i64 s] w fun e w' => ∃ A' c', e = .returned (.slice A' n c') ∧ Own w' base A' n c' xs ∧ Below base w w' := by
  go_enter Try.func38, Try.ntmps38
  go_wp2_with fail
  refine wp_loop_rounds 1 ?_
  rw [rounds_succ]
  go_wp2_with fail
  go_ret
  exact ⟨A, c, rfl, hown, Below.refl _ _⟩

set_option maxRecDepth 100000 in
set_option maxHeartbeats 2000000 in
theorem putbits_mid (A : Option Addr) (n c base u : Nat) (m : Nat) (hm : m ≤ 8) (xs : List UInt8) (w : World) (hown : Own w base A n c xs) (hbase : base ≤ w.heap.size) (hn : n ≤ 1000000000) (hu : u ≤ 18446744073709551615) :
    Calls Try.prog 38 #[.slice A n c, .int .u64 u, .int .i64 m] w fun e w' => ∃ A' c', e = .returned (.slice A' (n + m) c') ∧ Own w' base A' (n + m) c' (xs ++ lbs u m) ∧ Below base w w' := by
  go_enter Try.func38, Try.ntmps38
  go_wp2_with fail
  go_loopw [0, 11] (fun b i wr => ∃ (k : Nat) (A' : Option Addr) (c' : Nat), b = .slice A' (n + k) c' ∧ i = .int .i64 k ∧ k ≤ m ∧ Own wr base A' (n + k) c' (xs ++ lbs u k) ∧ Below base w wr) (fun _ i _ => 8 - (intOf i).toNat)
  case atStart => exact ⟨0, A, c, rfl, rfl, by omega, by simpa [lbs] using hown, Below.refl _ _⟩
  case round =>
    obtain ⟨k, A2, c2, rfl, rfl, hk, hown2, hbw⟩ := hrel
    by_cases hkn : k = m
    · subst hkn
      go_wp2_with fail
      go_ret
      exact ⟨A2, c2, rfl, hown2, hbw⟩
    · have hlt : (k : Int) < m := by omega
      rcases (show k = 0 ∨ k = 1 ∨ k = 2 ∨ k = 3 ∨ k = 4 ∨ k = 5 ∨ k = 6 ∨ k = 7 by omega) with hkk | hkk | hkk | hkk | hkk | hkk | hkk | hkk
      · subst hkk
        have hx : ((UInt8.ofNat (u / 256 ^ 0 % 256)).toNat : Int) = ((u / 1 % 256 : Nat) : Int) := by rw [UInt8.toNat_ofNat', show (256 : Nat) ^ 0 = 1 by decide]; omega
        have HX := Lib.hid hx
        clear hx hkn
        go_wp2_with (at_builtin; refine wpl_app rfl rfl (hown2.alloc _) rfl (rd_valg wr (UInt8.ofNat (u / 256 ^ 0 % 256)) _ _ (by simp) (by rw [HX.out] <;> omega)) (by omega) (by have := hbw.size; simp; omega) ?_; intro A4 c4 w4 ho4 hb4)
        go_roundw
        case rel =>
          refine ⟨0 + 1, A4, c4, by simp, by simp, by omega, ?_, (hbw.al hbase _).trans hb4⟩
          rw [lbs_succ, ← List.append_assoc]; exact ho4
        case measure => simp [intOf]
      · subst hkk
        have hx : ((UInt8.ofNat (u / 256 ^ 1 % 256)).toNat : Int) = ((u / 256 % 256 : Nat) : Int) := by rw [UInt8.toNat_ofNat', show (256 : Nat) ^ 1 = 256 by decide]; omega
        have HX := Lib.hid hx
        clear hx hkn
        go_wp2_with (at_builtin; refine wpl_app rfl rfl (hown2.alloc _) rfl (rd_valg wr (UInt8.ofNat (u / 256 ^ 1 % 256)) _ _ (by simp) (by rw [HX.out] <;> omega)) (by omega) (by have := hbw.size; simp; omega) ?_; intro A4 c4 w4 ho4 hb4)
        go_roundw
        case rel =>
          refine ⟨1 + 1, A4, c4, by simp, by simp, by omega, ?_, (hbw.al hbase _).trans hb4⟩
          rw [lbs_succ, ← List.append_assoc]; exact ho4
        case measure => simp [intOf]
      · subst hkk
        have hx : ((UInt8.ofNat (u / 256 ^ 2 % 256)).toNat : Int) = ((u / 65536 % 256 : Nat) : Int) := by rw [UInt8.toNat_ofNat', show (256 : Nat) ^ 2 = 65536 by decide]; omega
        have HX := Lib.hid hx
        clear hx hkn
        go_wp2_with (at_builtin; refine wpl_app rfl rfl (hown2.alloc _) rfl (rd_valg wr (UInt8.ofNat (u / 256 ^ 2 % 256)) _ _ (by simp) (by rw [HX.out] <;> omega)) (by omega) (by have := hbw.size; simp; omega) ?_; intro A4 c4 w4 ho4 hb4)
        go_roundw
        case rel =>
          refine ⟨2 + 1, A4, c4, by simp, by simp, by omega, ?_, (hbw.al hbase _).trans hb4⟩
          rw [lbs_succ, ← List.append_assoc]; exact ho4
        case measure => simp [intOf]
      · subst hkk
        have hx : ((UInt8.ofNat (u / 256 ^ 3 % 256)).toNat : Int) = ((u / 16777216 % 256 : Nat) : Int) := by rw [UInt8.toNat_ofNat', show (256 : Nat) ^ 3 = 16777216 by decide]; omega
        have HX := Lib.hid hx
        clear hx hkn
        go_wp2_with (at_builtin; refine wpl_app rfl rfl (hown2.alloc _) rfl (rd_valg wr (UInt8.ofNat (u / 256 ^ 3 % 256)) _ _ (by simp) (by rw [HX.out] <;> omega)) (by omega) (by have := hbw.size; simp; omega) ?_; intro A4 c4 w4 ho4 hb4)
        go_roundw
        case rel =>
          refine ⟨3 + 1, A4, c4, by simp, by simp, by omega, ?_, (hbw.al hbase _).trans hb4⟩
          rw [lbs_succ, ← List.append_assoc]; exact ho4
        case measure => simp [intOf]
      · subst hkk
        have hx : ((UInt8.ofNat (u / 256 ^ 4 % 256)).toNat : Int) = ((u / 4294967296 % 256 : Nat) : Int) := by rw [UInt8.toNat_ofNat', show (256 : Nat) ^ 4 = 4294967296 by decide]; omega
        have HX := Lib.hid hx
        clear hx hkn
        go_wp2_with (at_builtin; refine wpl_app rfl rfl (hown2.alloc _) rfl (rd_valg wr (UInt8.ofNat (u / 256 ^ 4 % 256)) _ _ (by simp) (by rw [HX.out] <;> omega)) (by omega) (by have := hbw.size; simp; omega) ?_; intro A4 c4 w4 ho4 hb4)
        go_roundw
        case rel =>
          refine ⟨4 + 1, A4, c4, by simp, by simp, by omega, ?_, (hbw.al hbase _).trans hb4⟩
          rw [lbs_succ, ← List.append_assoc]; exact ho4
        case measure => simp [intOf]
      · subst hkk
        have hx : ((UInt8.ofNat (u / 256 ^ 5 % 256)).toNat : Int) = ((u / 1099511627776 % 256 : Nat) : Int) := by rw [UInt8.toNat_ofNat', show (256 : Nat) ^ 5 = 1099511627776 by decide]; omega
        have HX := Lib.hid hx
        clear hx hkn
        go_wp2_with (at_builtin; refine wpl_app rfl rfl (hown2.alloc _) rfl (rd_valg wr (UInt8.ofNat (u / 256 ^ 5 % 256)) _ _ (by simp) (by rw [HX.out] <;> omega)) (by omega) (by have := hbw.size; simp; omega) ?_; intro A4 c4 w4 ho4 hb4)
        go_roundw
        case rel =>
          refine ⟨5 + 1, A4, c4, by simp, by simp, by omega, ?_, (hbw.al hbase _).trans hb4⟩
          rw [lbs_succ, ← List.append_assoc]; exact ho4
        case measure => simp [intOf]
      · subst hkk
        have hx : ((UInt8.ofNat (u / 256 ^ 6 % 256)).toNat : Int) = ((u / 281474976710656 % 256 : Nat) : Int) := by rw [UInt8.toNat_ofNat', show (256 : Nat) ^ 6 = 281474976710656 by decide]; omega
        have HX := Lib.hid hx
        clear hx hkn
        go_wp2_with (at_builtin; refine wpl_app rfl rfl (hown2.alloc _) rfl (rd_valg wr (UInt8.ofNat (u / 256 ^ 6 % 256)) _ _ (by simp) (by rw [HX.out] <;> omega)) (by omega) (by have := hbw.size; simp; omega) ?_; intro A4 c4 w4 ho4 hb4)
        go_roundw
        case rel =>
          refine ⟨6 + 1, A4, c4, by simp, by simp, by omega, ?_, (hbw.al hbase _).trans hb4⟩
          rw [lbs_succ, ← List.append_assoc]; exact ho4
        case measure => simp [intOf]
      · subst hkk
        have hx : ((UInt8.ofNat (u / 256 ^ 7 % 256)).toNat : Int) = ((u / 72057594037927936 % 256 : Nat) : Int) := by rw [UInt8.toNat_ofNat', show (256 : Nat) ^ 7 = 72057594037927936 by decide]; omega
        have HX := Lib.hid hx
        clear hx hkn
        go_wp2_with (at_builtin; refine wpl_app rfl rfl (hown2.alloc _) rfl (rd_valg wr (UInt8.ofNat (u / 256 ^ 7 % 256)) _ _ (by simp) (by rw [HX.out] <;> omega)) (by omega) (by have := hbw.size; simp; omega) ?_; intro A4 c4 w4 ho4 hb4)
        go_roundw
        case rel =>
          refine ⟨7 + 1, A4, c4, by simp, by simp, by omega, ?_, (hbw.al hbase _).trans hb4⟩
          rw [lbs_succ, ← List.append_assoc]; exact ho4
        case measure => simp [intOf]

set_option maxRecDepth 100000 in
set_option maxHeartbeats 2000000 in
theorem putbits_big (A : Option Addr) (n c base u : Nat) (s : Int) (hs : 8 < s) (xs : List UInt8) (w : World) (hown : Own w base A n c xs) (hbase : base ≤ w.heap.size) (hn : n ≤ 1000000000) (hu : u ≤ 18446744073709551615) :
    Calls Try.prog 38 #[.slice A n c, .int .u64 u, .int .i64 s] w fun e w' => ∃ A' c', e = .returned (.slice A' (n + 8) c') ∧ Own w' base A' (n + 8) c' (xs ++ lbs u 8) ∧ Below base w w' := by
  go_enter Try.func38, Try.ntmps38
  go_wp2_with fail
  go_loopw [0, 11] (fun b i wr => ∃ (k : Nat) (A' : Option Addr) (c' : Nat), b = .slice A' (n + k) c' ∧ i = .int .i64 k ∧ k ≤ 8 ∧ Own wr base A' (n + k) c' (xs ++ lbs u k) ∧ Below base w wr) (fun _ i _ => 8 - (intOf i).toNat)
  case atStart => exact ⟨0, A, c, rfl, rfl, by omega, by simpa [lbs] using hown, Below.refl _ _⟩
  case round =>
    obtain ⟨k, A2, c2, rfl, rfl, hk, hown2, hbw⟩ := hrel
    by_cases hkn : k = 8
    · subst hkn
      go_wp2_with fail
      go_ret
      exact ⟨A2, c2, rfl, hown2, hbw⟩
    · have hlt : (k : Int) < 8 := by omega
      rcases (show k = 0 ∨ k = 1 ∨ k = 2 ∨ k = 3 ∨ k = 4 ∨ k = 5 ∨ k = 6 ∨ k = 7 by omega) with hkk | hkk | hkk | hkk | hkk | hkk | hkk | hkk
      · subst hkk
        have hx : ((UInt8.ofNat (u / 256 ^ 0 % 256)).toNat : Int) = ((u / 1 % 256 : Nat) : Int) := by rw [UInt8.toNat_ofNat', show (256 : Nat) ^ 0 = 1 by decide]; omega
        have HX := Lib.hid hx
        clear hx hkn
        go_wp2_with (at_builtin; refine wpl_app rfl rfl (hown2.alloc _) rfl (rd_valg wr (UInt8.ofNat (u / 256 ^ 0 % 256)) _ _ (by simp) (by rw [HX.out] <;> omega)) (by omega) (by have := hbw.size; simp; omega) ?_; intro A4 c4 w4 ho4 hb4)
        go_roundw
        case rel =>
          refine ⟨0 + 1, A4, c4, by simp, by simp, by omega, ?_, (hbw.al hbase _).trans hb4⟩
          rw [lbs_succ, ← List.append_assoc]; exact ho4
        case measure => simp [intOf]
      · subst hkk
        have hx : ((UInt8.ofNat (u / 256 ^ 1 % 256)).toNat : Int) = ((u / 256 % 256 : Nat) : Int) := by rw [UInt8.toNat_ofNat', show (256 : Nat) ^ 1 = 256 by decide]; omega
        have HX := Lib.hid hx
        clear hx hkn
        go_wp2_with (at_builtin; refine wpl_app rfl rfl (hown2.alloc _) rfl (rd_valg wr (UInt8.ofNat (u / 256 ^ 1 % 256)) _ _ (by simp) (by rw [HX.out] <;> omega)) (by omega) (by have := hbw.size; simp; omega) ?_; intro A4 c4 w4 ho4 hb4)
        go_roundw
        case rel =>
          refine ⟨1 + 1, A4, c4, by simp, by simp, by omega, ?_, (hbw.al hbase _).trans hb4⟩
          rw [lbs_succ, ← List.append_assoc]; exact ho4
        case measure => simp [intOf]
      · subst hkk
        have hx : ((UInt8.ofNat (u / 256 ^ 2 % 256)).toNat : Int) = ((u / 65536 % 256 : Nat) : Int) := by rw [UInt8.toNat_ofNat', show (256 : Nat) ^ 2 = 65536 by decide]; omega
        have HX := Lib.hid hx
        clear hx hkn
        go_wp2_with (at_builtin; refine wpl_app rfl rfl (hown2.alloc _) rfl (rd_valg wr (UInt8.ofNat (u / 256 ^ 2 % 256)) _ _ (by simp) (by rw [HX.out] <;> omega)) (by omega) (by have := hbw.size; simp; omega) ?_; intro A4 c4 w4 ho4 hb4)
        go_roundw
        case rel =>
          refine ⟨2 + 1, A4, c4, by simp, by simp, by omega, ?_, (hbw.al hbase _).trans hb4⟩
          rw [lbs_succ, ← List.append_assoc]; exact ho4
        case measure => simp [intOf]
      · subst hkk
        have hx : ((UInt8.ofNat (u / 256 ^ 3 % 256)).toNat : Int) = ((u / 16777216 % 256 : Nat) : Int) := by rw [UInt8.toNat_ofNat', show (256 : Nat) ^ 3 = 16777216 by decide]; omega
        have HX := Lib.hid hx
        clear hx hkn
        go_wp2_with (at_builtin; refine wpl_app rfl rfl (hown2.alloc _) rfl (rd_valg wr (UInt8.ofNat (u / 256 ^ 3 % 256)) _ _ (by simp) (by rw [HX.out] <;> omega)) (by omega) (by have := hbw.size; simp; omega) ?_; intro A4 c4 w4 ho4 hb4)
        go_roundw
        case rel =>
          refine ⟨3 + 1, A4, c4, by simp, by simp, by omega, ?_, (hbw.al hbase _).trans hb4⟩
          rw [lbs_succ, ← List.append_assoc]; exact ho4
        case measure => simp [intOf]
      · subst hkk
        have hx : ((UInt8.ofNat (u / 256 ^ 4 % 256)).toNat : Int) = ((u / 4294967296 % 256 : Nat) : Int) := by rw [UInt8.toNat_ofNat', show (256 : Nat) ^ 4 = 4294967296 by decide]; omega
        have HX := Lib.hid hx
        clear hx hkn
        go_wp2_with (at_builtin; refine wpl_app rfl rfl (hown2.alloc _) rfl (rd_valg wr (UInt8.ofNat (u / 256 ^ 4 % 256)) _ _ (by simp) (by rw [HX.out] <;> omega)) (by omega) (by have := hbw.size; simp; omega) ?_; intro A4 c4 w4 ho4 hb4)
        go_roundw
        case rel =>
          refine ⟨4 + 1, A4, c4, by simp, by simp, by omega, ?_, (hbw.al hbase _).trans hb4⟩
          rw [lbs_succ, ← List.append_assoc]; exact ho4
        case measure => simp [intOf]
      · subst hkk
        have hx : ((UInt8.ofNat (u / 256 ^ 5 % 256)).toNat : Int) = ((u / 1099511627776 % 256 : Nat) : Int) := by rw [UInt8.toNat_ofNat', show (256 : Nat) ^ 5 = 1099511627776 by decide]; omega
        have HX := Lib.hid hx
        clear hx hkn
        go_wp2_with (at_builtin; refine wpl_app rfl rfl (hown2.alloc _) rfl (rd_valg wr (UInt8.ofNat (u / 256 ^ 5 % 256)) _ _ (by simp) (by rw [HX.out] <;> omega)) (by omega) (by have := hbw.size; simp; omega) ?_; intro A4 c4 w4 ho4 hb4)
        go_roundw
        case rel =>
          refine ⟨5 + 1, A4, c4, by simp, by simp, by omega, ?_, (hbw.al hbase _).trans hb4⟩
          rw [lbs_succ, ← List.append_assoc]; exact ho4
        case measure => simp [intOf]
      · subst hkk
        have hx : ((UInt8.ofNat (u / 256 ^ 6 % 256)).toNat : Int) = ((u / 281474976710656 % 256 : Nat) : Int) := by rw [UInt8.toNat_ofNat', show (256 : Nat) ^ 6 = 281474976710656 by decide]; omega
        have HX := Lib.hid hx
        clear hx hkn
        go_wp2_with (at_builtin; refine wpl_app rfl rfl (hown2.alloc _) rfl (rd_valg wr (UInt8.ofNat (u / 256 ^ 6 % 256)) _ _ (by simp) (by rw [HX.out] <;> omega)) (by omega) (by have := hbw.size; simp; omega) ?_; intro A4 c4 w4 ho4 hb4)
        go_roundw
        case rel =>
          refine ⟨6 + 1, A4, c4, by simp, by simp, by omega, ?_, (hbw.al hbase _).trans hb4⟩
          rw [lbs_succ, ← List.append_assoc]; exact ho4
        case measure => simp [intOf]
      · subst hkk
        have hx : ((UInt8.ofNat (u / 256 ^ 7 % 256)).toNat : Int) = ((u / 72057594037927936 % 256 : Nat) : Int) := by rw [UInt8.toNat_ofNat', show (256 : Nat) ^ 7 = 72057594037927936 by decide]; omega
        have HX := Lib.hid hx
        clear hx hkn
        go_wp2_with (at_builtin; refine wpl_app rfl rfl (hown2.alloc _) rfl (rd_valg wr (UInt8.ofNat (u / 256 ^ 7 % 256)) _ _ (by simp) (by rw [HX.out] <;> omega)) (by omega) (by have := hbw.size; simp; omega) ?_; intro A4 c4 w4 ho4 hb4)
        go_roundw
        case rel =>
          refine ⟨7 + 1, A4, c4, by simp, by simp, by omega, ?_, (hbw.al hbase _).trans hb4⟩
          rw [lbs_succ, ← List.append_assoc]; exact ho4
        case measure => simp [intOf]

theorem putbits_any (A : Option Addr) (n c base u : Nat) (s : Int) (M : Nat) (xs : List UInt8) (w : World) (hown : Own w base A n c xs) (hbase : base ≤ w.heap.size) (hn : n ≤ 1000000000) (hu : u ≤ 18446744073709551615) (hM : (M : Int) = min (max s 0) 8) :
    Calls Try.prog 38 #[.slice A n c, .int .u64 u, .int .i64 s] w fun e w' => ∃ A' c', e = .returned (.slice A' (n + M) c') ∧ Own w' base A' (n + M) c' (xs ++ lbs u M) ∧ Below base w w' := by
  rcases (show s < 0 ∨ (0 ≤ s ∧ s ≤ 8) ∨ 8 < s by omega) with h | ⟨h, h'⟩ | h
  · obtain rfl : M = 0 := by omega
    refine (putbits_neg A n c base u s h xs w hown).mono ?_
    rintro e w' ⟨A', c', rfl, h1, h2⟩
    exact ⟨A', c', rfl, by simpa [lbs] using h1, h2⟩
  · obtain ⟨m, rfl⟩ := Int.eq_ofNat_of_zero_le h
    obtain rfl : M = m := by omega
    exact putbits_mid A n c base u M (by omega) xs w hown hbase hn hu
  · obtain rfl : M = 8 := by omega
    exact putbits_big A n c base u s h xs w hown hbase hn hu

set_option maxRecDepth 100000 in
theorem refputbits_any (u : Nat) (s : Int) (M : Nat) (w : World) (hu : u ≤ 18446744073709551615) (hM : (M : Int) = min (max s 0) 8) :
    Calls Try.prog 39 #[.int .u64 u, .int .i64 s] w fun e w' => ∃ A' c', e = .returned (.slice A' M c') ∧ Own w' w.heap.size A' M c' (lbs u M) ∧ Below w.heap.size w w' := by
  go_enter Try.func39, Try.ntmps39
  go_wp2_with fail
  go_loopw [0, 5, 6] (fun x b i wr => ∃ (k : Nat) (A' : Option Addr) (c' : Nat), x = .int .u64 ((u / 256 ^ k : Nat) : Int) ∧ b = .slice A' k c' ∧ i = .int .i64 k ∧ k ≤ M ∧ Own wr w.heap.size A' k c' (lbs u k) ∧ Below w.heap.size w wr) (fun _ _ i _ => 8 - (intOf i).toNat)
  case atStart => exact ⟨0, none, 0, by simp, rfl, rfl, by omega, Own.nil _ _, Below.refl _ _⟩
  case round =>
    obtain ⟨k, A2, c2, rfl, rfl, rfl, hk, hown2, hbw⟩ := hrel
    have hule : u / 256 ^ k ≤ u := Nat.div_le_self _ _
    have hstep : u / 256 ^ (k + 1) = u / 256 ^ k / 256 := by rw [Nat.pow_succ, Nat.div_div_eq_div_mul]
    have hlb := lbs_succ u k
    have HST := Lib.hid hstep
    have HLB := Lib.hid hlb
    clear hstep hlb
    generalize u / 256 ^ k = U at hule HST HLB
    by_cases hkn : k = M
    · subst hkn
      rcases (show s ≤ k ∨ (¬ s ≤ k ∧ k = 8) by omega) with h | ⟨h, h'⟩
      · have g1 : ¬ (k : Int) < s := by omega
        go_wp2_with fail
        go_ret
        exact ⟨A2, c2, rfl, hown2, hbw⟩
      · have g1 : (k : Int) < s := by omega
        subst h'
        go_wp2_with fail
        go_ret
        exact ⟨A2, c2, rfl, hown2, hbw⟩
    · have g1 : (k : Int) < s := by omega
      have g2 : (k : Int) < 8 := by omega
      have hx : ((UInt8.ofNat (U % 256)).toNat : Int) = ((U % 256 : Nat) : Int) := by rw [UInt8.toNat_ofNat']; omega
      have HX := Lib.hid hx
      clear hx
      go_wp2_with (at_builtin; refine wpl_app rfl rfl (hown2.alloc _) rfl (rd_valg wr (UInt8.ofNat (U % 256)) _ _ (by simp) (by rw [HX.out] <;> omega)) (by omega) (by have := hbw.size; simp; omega) ?_; intro A4 c4 w4 ho4 hb4)
      go_roundw
      case rel =>
        refine ⟨k + 1, A4, c4, by rw [HST.out]; simp, by simp, by simp, by omega, ?_, (hbw.al (Nat.le_refl _) _).trans hb4⟩
        rw [HLB.out]; exact ho4
      case measure => simp [intOf]; omega

/-- bytes behind their size -/
def pby (ys : List UInt8) : List UInt8 := Vr.vput (zig (ys.length : Int)).toNat ++ ys
theorem putbytes_any (A A' : Option Addr) (n c n' c' base B : Nat) (xs ys : List UInt8) (w : World) (hown : Own w base A n c xs) (hbase : base ≤ w.heap.size) (hr : Rd w B A' n' ys) (hB : B ≤ base) (hn : n ≤ 1000000) (hn' : n' ≤ 1000000) :
    Calls Try.prog 40 #[.slice A n c, .slice A' n' c'] w fun e w' => ∃ A2 n2 c2, e = .returned (.slice A2 n2 c2) ∧ Own w' base A2 n2 c2 (xs ++ pby ys) ∧ Below base w w' := by
  have hpl := parts_le (u := (zig (n' : Int)).toNat) (by have := zig_le (n' : Int) (by omega) (by omega); omega)
  have hl := hr.len
  unfold pby
  rw [hl]
  have hput := Vr.put_any (n' : Int) (by omega) (by omega) A n c xs base w hown hbase (by omega)
  generalize parts (zig (n' : Int)).toNat = P at hput hpl
  generalize Vr.vput (zig (n' : Int)).toNat = V at hput ⊢
  have HP := Lib.hid hput
  clear hput
  go_enter Try.func40, Try.ntmps40
  go_wp2_with fail
  refine HP.out.mono ?_
  rintro e w2 ⟨A2, c2, rfl, ho2, hb2⟩
  go_wp2_with (at_builtin; refine wpl_app rfl rfl ho2 rfl (hr.below' hb2 hB) (by omega) (Nat.le_trans hbase hb2.size) ?_; intro A4 c4 w4 ho4 hb4)
  go_ret
  exact ⟨A4, _, c4, rfl, by rw [← List.append_assoc]; exact ho4, hb2.trans hb4⟩
theorem refputbytes_any (A' : Option Addr) (n' c' B : Nat) (ys : List UInt8) (w : World) (hr : Rd w B A' n' ys) (hB : B ≤ w.heap.size) (hn' : n' ≤ 1000000) :
    Calls Try.prog 41 #[.slice A' n' c'] w fun e w' => ∃ A2 n2 c2, e = .returned (.slice A2 n2 c2) ∧ Own w' w.heap.size A2 n2 c2 (pby ys) ∧ Below w.heap.size w w' := by
  have hpl := parts_le (u := (zig (n' : Int)).toNat) (by have := zig_le (n' : Int) (by omega) (by omega); omega)
  have hl := hr.len
  unfold pby
  rw [hl]
  have hput := Vr.refput_any (n' : Int) (by omega) (by omega) w.heap.size w (Nat.le_refl _)
  generalize parts (zig (n' : Int)).toNat = P at hput hpl
  generalize Vr.vput (zig (n' : Int)).toNat = V at hput ⊢
  have HP := Lib.hid hput
  clear hput
  go_enter Try.func41, Try.ntmps41
  go_wp2_with fail
  refine HP.out.mono ?_
  rintro e w2 ⟨A2, c2, rfl, ho2, hb2⟩
  go_wp2_with (at_builtin; refine wpl_app rfl rfl ho2 rfl (hr.below' hb2 hB) (by omega) hb2.size ?_; intro A4 c4 w4 ho4 hb4)
  go_ret
  exact ⟨A4, _, c4, rfl, ho4, hb2.trans hb4⟩

theorem putbool_k (A : Option Addr) (n c base : Nat) (v : Int) (xs : List UInt8) (w : World) (g : Nat) (u : Value) (hown : Own w base A n c xs) (hbase : base ≤ w.heap.size) (hn : n ≤ 1000000000) (hx : Bx w A g u) :
    Calls Try.prog 36 #[.slice A n c, .int .i64 v] w fun e w' => ∃ A' c', e = .returned (.slice A' (n + 1) c') ∧ Own w' base A' (n + 1) c' (xs ++ [tb v]) ∧ Below base w w' ∧ Bx w' A' g u := by
  unfold tb
  by_cases h : v = 0
  · subst h
    rw [if_pos rfl]
    go_enter Try.func36, Try.ntmps36
    go_wp2_with (at_builtin; refine wpl_appk rfl rfl (hown.alloc _) rfl (rd_val w 0 0 rfl) (by omega) (by simp; omega) (hx.alloc _) ?_; intro A4 c4 w4 ho4 hb4 hx4)
    go_ret
    exact ⟨A4, c4, rfl, ho4, ((Below.refl _ _).al hbase _).trans hb4, hx4⟩
  · rw [if_neg h]
    have h2 : (v != 0) = true := by simp [h]
    go_enter Try.func36, Try.ntmps36
    go_wp2_with (at_builtin; refine wpl_appk rfl rfl (hown.alloc _) rfl (rd_val w 1 1 rfl) (by omega) (by simp; omega) (hx.alloc _) ?_; intro A4 c4 w4 ho4 hb4 hx4)
    go_ret
    exact ⟨A4, c4, rfl, ho4, ((Below.refl _ _).al hbase _).trans hb4, hx4⟩
theorem rd_bx {w : World} {A : Option Addr} {g : Nat} (x : UInt8) (v : Int) (hv : v = (x.toNat : Int)) (h : Bx w A g (.int .u8 v)) : Rd w w.heap.size (some ⟨g, 0, none⟩) 1 [x] := by
  refine ⟨rfl, fun _ => ⟨g, 0, rfl, h.lt, fun j y hy => ?_⟩⟩
  match j, hy with
  | 0, hy =>
    simp at hy
    subst hy
    rw [← hv]; exact h.cell
end Go.Proofs.Ytodgnlhakafhoaa.Wr
