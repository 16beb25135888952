/- The layer wire: the program's reader, numbers and ends. -/
import Derived.Test.YtodgnlhakafhoaaWirB
import Derived.Test.YtodgnlhakafhoaaVarQ
namespace Go.Proofs.Ytodgnlhakafhoaa.Wr
open Go.ChangeShapes Go.WideShapes Go.ChangeAt Go.RowKit
open Num Mem

def lnE (most last n : Nat) (xs : List UInt8) (a e : Int) : Int := if stE n a e ≠ 0 then stE n a e else Vr.tkE most last xs a
theorem stE_zero {n : Nat} {a e : Int} (h : stE n a e = 0) : e = 0 ∧ 0 ≤ a ∧ a ≤ n := by
  unfold stE at h
  by_cases h4 : e = 0 ∧ (a < 0 ∨ (n : Int) < a)
  · rw [if_pos h4] at h; cases h
  · rw [if_neg h4] at h; omega
theorem lnE_zero {most last n : Nat} {xs : List UInt8} {a e : Int} (h : lnE most last n xs a e = 0) : e = 0 ∧ stE n a e = 0 ∧ Vr.tkE most last xs a = 0 := by
  unfold lnE at h
  by_cases hs : stE n a e ≠ 0
  · rw [if_pos hs] at h; exact absurd h hs
  · rw [if_neg hs] at h
    have hs' : stE n a e = 0 := by simpa using hs
    exact ⟨(stE_zero hs').1, hs', h⟩
set_option maxRecDepth 100000 in
set_option maxHeartbeats 2000000 in
theorem long_no (A : Option Addr) (n c B : Nat) (a e : Int) (xs : List UInt8) (w : World) (hr : Rd w B A n xs) (hB : B ≤ w.heap.size) (hnc : n ≤ c) (hn : n ≤ 1000000000) (h1 : lnE 10 1 n xs a e ≠ 0) :
    Calls Try.prog 48 #[.agg #[.slice A n c, .int .i64 a, .int .i64 e]] w fun e' w' => e' = .returned (.tuple #[.int .i64 0, .agg #[.slice A n c, .int .i64 a, .int .i64 (lnE 10 1 n xs a e)]]) ∧ Below w.heap.size w w' := by
  have hnum : ∀ w1, Below w.heap.size w w1 → Calls Try.prog 78 #[.agg #[.slice A n c, .int .i64 a, .int .i64 e], .func (.func 16) #[] #[]] w1 fun e' w' => e' = .returned (.tuple #[.int .i64 0, .agg #[.slice A n c, .int .i64 a, .int .i64 (lnE 10 1 n xs a e)]]) ∧ Below w1.heap.size w1 w' := by
    intro w1 hw1
    by_cases hs : stE n a e = 0
    · have hE : lnE 10 1 n xs a e = Vr.tkE 10 1 xs a := by unfold lnE; rw [if_neg (by simp [hs])]
      obtain ⟨rfl, hs2, hs3⟩ := stE_zero hs
      rw [hE] at h1 ⊢
      exact number_err_long A n c a (Vr.tkN 10 1 xs a) (Vr.tkTo 10 1 xs a) _ w1 hs (by exact_mod_cast h1) (fun w2 hw2 => Vr.Take_any A n c B a xs w2 (hr.below' (hw1.trans (hw2.mono hw1.size)) hB) (Nat.le_trans hB (Nat.le_trans hw1.size hw2.size)) hnc hn)
    · have hE : lnE 10 1 n xs a e = stE n a e := by unfold lnE; rw [if_pos hs]
      rw [hE]
      exact number_no0_long A n c a e w1 hs
  generalize lnE 10 1 n xs a e = E at hnum ⊢
  have HN := Lib.hid hnum
  clear hnum
  go_enter Try.func48, Try.ntmps48
  go_wp2_with fail
  refine (HN.out _ (by repeat' (first | with_reducible exact Below.refl _ _ | with_reducible assumption | with_reducible refine Below.drew ?_ | with_reducible refine Below.drewN ?_ _ | with_reducible refine Below.setCell ?_ (by simp <;> omega) _ | with_reducible refine Below.alloc ?_ (by simp <;> omega) _))).mono ?_
  rintro e' w2 ⟨rfl, hb2⟩
  have x2 : Bxr w2 (w.heap.size + 1) none 0 0 0 0 := Bxr.below ⟨⟨by simp, by simp, by simp⟩, by simp, by simp, by simp⟩ hb2 (by simp <;> omega)
  obtain ⟨⟨q0, q1, q2⟩, g0, g1, g2⟩ := x2
  have hbz : Below w.heap.size w w2 := (((Below.refl _ _).al (Nat.le_refl _) _).al (Nat.le_refl _) _).thn (Nat.le_refl _) hb2
  have hsz := hb2.size
  simp only [World.size_alloc] at hsz
  clear hb2
  go_wp2_with fail
  refine bodyPost_ret (ret_tc (A := A) (n := n) (c := c) (a := a) (e := E) rfl rfl ⟨by go_simp, by go_simp, by go_simp⟩) rfl ⟨by simp [rdv], ?_⟩
  (repeat' (first | with_reducible exact Below.refl _ _ | with_reducible assumption | with_reducible refine Below.drew ?_ | with_reducible refine Below.drewN ?_ _ | with_reducible refine Below.setCell ?_ (by simp <;> omega) _ | with_reducible refine Below.alloc ?_ (by simp <;> omega) _))
set_option maxRecDepth 100000 in
set_option maxHeartbeats 2000000 in
theorem long_ok (A : Option Addr) (n c B : Nat) (a e : Int) (xs : List UInt8) (w : World) (hr : Rd w B A n xs) (hB : B ≤ w.heap.size) (hnc : n ≤ c) (hn : n ≤ 1000000000) (h1 : lnE 10 1 n xs a e = 0) :
    Calls Try.prog 48 #[.agg #[.slice A n c, .int .i64 a, .int .i64 e]] w fun e' w' => e' = .returned (.tuple #[.int .i64 (Vr.tkN 10 1 xs a), .agg #[.slice A n c, .int .i64 (Vr.tkTo 10 1 xs a), .int .i64 0]]) ∧ Below w.heap.size w w' := by
  have hnum : ∀ w1, Below w.heap.size w w1 → Calls Try.prog 78 #[.agg #[.slice A n c, .int .i64 a, .int .i64 e], .func (.func 16) #[] #[]] w1 fun e' w' => e' = .returned (.tuple #[.int .i64 (Vr.tkN 10 1 xs a), .agg #[.slice A n c, .int .i64 (Vr.tkTo 10 1 xs a), .int .i64 0]]) ∧ Below w1.heap.size w1 w' := by
    intro w1 hw1
    obtain ⟨rfl, hs, hE⟩ := lnE_zero h1
    exact number_ok_long A n c a (Vr.tkN 10 1 xs a) (Vr.tkTo 10 1 xs a) (Vr.tkE 10 1 xs a) w1 hs (by exact_mod_cast hE) (fun w2 hw2 => Vr.Take_any A n c B a xs w2 (hr.below' (hw1.trans (hw2.mono hw1.size)) hB) (Nat.le_trans hB (Nat.le_trans hw1.size hw2.size)) hnc hn)
  generalize Vr.tkN 10 1 xs a = N at hnum ⊢
  generalize Vr.tkTo 10 1 xs a = T at hnum ⊢
  have HN := Lib.hid hnum
  clear hnum
  go_enter Try.func48, Try.ntmps48
  go_wp2_with fail
  refine (HN.out _ (by repeat' (first | with_reducible exact Below.refl _ _ | with_reducible assumption | with_reducible refine Below.drew ?_ | with_reducible refine Below.drewN ?_ _ | with_reducible refine Below.setCell ?_ (by simp <;> omega) _ | with_reducible refine Below.alloc ?_ (by simp <;> omega) _))).mono ?_
  rintro e' w2 ⟨rfl, hb2⟩
  have x2 : Bxr w2 (w.heap.size + 1) none 0 0 0 0 := Bxr.below ⟨⟨by simp, by simp, by simp⟩, by simp, by simp, by simp⟩ hb2 (by simp <;> omega)
  obtain ⟨⟨q0, q1, q2⟩, g0, g1, g2⟩ := x2
  have hbz : Below w.heap.size w w2 := (((Below.refl _ _).al (Nat.le_refl _) _).al (Nat.le_refl _) _).thn (Nat.le_refl _) hb2
  have hsz := hb2.size
  simp only [World.size_alloc] at hsz
  clear hb2
  go_wp2_with fail
  refine bodyPost_ret (ret_tc (A := A) (n := n) (c := c) (a := T) (e := 0) rfl rfl ⟨by go_simp, by go_simp, by go_simp⟩) rfl ⟨by simp [rdv], ?_⟩
  (repeat' (first | with_reducible exact Below.refl _ _ | with_reducible assumption | with_reducible refine Below.drew ?_ | with_reducible refine Below.drewN ?_ _ | with_reducible refine Below.setCell ?_ (by simp <;> omega) _ | with_reducible refine Below.alloc ?_ (by simp <;> omega) _))
set_option maxRecDepth 100000 in
set_option maxHeartbeats 2000000 in
theorem int_no (A : Option Addr) (n c B : Nat) (a e : Int) (xs : List UInt8) (w : World) (hr : Rd w B A n xs) (hB : B ≤ w.heap.size) (hnc : n ≤ c) (hn : n ≤ 1000000000) (h1 : lnE 5 15 n xs a e ≠ 0) :
    Calls Try.prog 47 #[.agg #[.slice A n c, .int .i64 a, .int .i64 e]] w fun e' w' => e' = .returned (.tuple #[.int .i64 0, .agg #[.slice A n c, .int .i64 a, .int .i64 (lnE 5 15 n xs a e)]]) ∧ Below w.heap.size w w' := by
  have hnum : ∀ w1, Below w.heap.size w w1 → Calls Try.prog 78 #[.agg #[.slice A n c, .int .i64 a, .int .i64 e], .func (.func 18) #[] #[]] w1 fun e' w' => e' = .returned (.tuple #[.int .i64 0, .agg #[.slice A n c, .int .i64 a, .int .i64 (lnE 5 15 n xs a e)]]) ∧ Below w1.heap.size w1 w' := by
    intro w1 hw1
    by_cases hs : stE n a e = 0
    · have hE : lnE 5 15 n xs a e = Vr.tkE 5 15 xs a := by unfold lnE; rw [if_neg (by simp [hs])]
      obtain ⟨rfl, hs2, hs3⟩ := stE_zero hs
      rw [hE] at h1 ⊢
      exact number_err_int A n c a (Vr.tkN 5 15 xs a) (Vr.tkTo 5 15 xs a) _ w1 hs (by exact_mod_cast h1) (fun w2 hw2 => Vr.TakeInt_any A n c B a xs w2 (hr.below' (hw1.trans (hw2.mono hw1.size)) hB) (Nat.le_trans hB (Nat.le_trans hw1.size hw2.size)) hnc hn)
    · have hE : lnE 5 15 n xs a e = stE n a e := by unfold lnE; rw [if_pos hs]
      rw [hE]
      exact number_no0_int A n c a e w1 hs
  generalize lnE 5 15 n xs a e = E at hnum ⊢
  have HN := Lib.hid hnum
  clear hnum
  go_enter Try.func47, Try.ntmps47
  go_wp2_with fail
  refine (HN.out _ (by repeat' (first | with_reducible exact Below.refl _ _ | with_reducible assumption | with_reducible refine Below.drew ?_ | with_reducible refine Below.drewN ?_ _ | with_reducible refine Below.setCell ?_ (by simp <;> omega) _ | with_reducible refine Below.alloc ?_ (by simp <;> omega) _))).mono ?_
  rintro e' w2 ⟨rfl, hb2⟩
  have x2 : Bxr w2 (w.heap.size + 1) none 0 0 0 0 := Bxr.below ⟨⟨by simp, by simp, by simp⟩, by simp, by simp, by simp⟩ hb2 (by simp <;> omega)
  obtain ⟨⟨q0, q1, q2⟩, g0, g1, g2⟩ := x2
  have hbz : Below w.heap.size w w2 := (((Below.refl _ _).al (Nat.le_refl _) _).al (Nat.le_refl _) _).thn (Nat.le_refl _) hb2
  have hsz := hb2.size
  simp only [World.size_alloc] at hsz
  clear hb2
  go_wp2_with fail
  refine bodyPost_ret (ret_tc (A := A) (n := n) (c := c) (a := a) (e := E) rfl rfl ⟨by go_simp, by go_simp, by go_simp⟩) rfl ⟨by simp [rdv], ?_⟩
  (repeat' (first | with_reducible exact Below.refl _ _ | with_reducible assumption | with_reducible refine Below.drew ?_ | with_reducible refine Below.drewN ?_ _ | with_reducible refine Below.setCell ?_ (by simp <;> omega) _ | with_reducible refine Below.alloc ?_ (by simp <;> omega) _))
set_option maxRecDepth 100000 in
set_option maxHeartbeats 2000000 in
theorem int_ok (A : Option Addr) (n c B : Nat) (a e : Int) (xs : List UInt8) (w : World) (hr : Rd w B A n xs) (hB : B ≤ w.heap.size) (hnc : n ≤ c) (hn : n ≤ 1000000000) (h1 : lnE 5 15 n xs a e = 0) :
    Calls Try.prog 47 #[.agg #[.slice A n c, .int .i64 a, .int .i64 e]] w fun e' w' => e' = .returned (.tuple #[.int .i64 (Vr.tkN 5 15 xs a), .agg #[.slice A n c, .int .i64 (Vr.tkTo 5 15 xs a), .int .i64 0]]) ∧ Below w.heap.size w w' := by
  have hnum : ∀ w1, Below w.heap.size w w1 → Calls Try.prog 78 #[.agg #[.slice A n c, .int .i64 a, .int .i64 e], .func (.func 18) #[] #[]] w1 fun e' w' => e' = .returned (.tuple #[.int .i64 (Vr.tkN 5 15 xs a), .agg #[.slice A n c, .int .i64 (Vr.tkTo 5 15 xs a), .int .i64 0]]) ∧ Below w1.heap.size w1 w' := by
    intro w1 hw1
    obtain ⟨rfl, hs, hE⟩ := lnE_zero h1
    exact number_ok_int A n c a (Vr.tkN 5 15 xs a) (Vr.tkTo 5 15 xs a) (Vr.tkE 5 15 xs a) w1 hs (by exact_mod_cast hE) (fun w2 hw2 => Vr.TakeInt_any A n c B a xs w2 (hr.below' (hw1.trans (hw2.mono hw1.size)) hB) (Nat.le_trans hB (Nat.le_trans hw1.size hw2.size)) hnc hn)
  generalize Vr.tkN 5 15 xs a = N at hnum ⊢
  generalize Vr.tkTo 5 15 xs a = T at hnum ⊢
  have HN := Lib.hid hnum
  clear hnum
  go_enter Try.func47, Try.ntmps47
  go_wp2_with fail
  refine (HN.out _ (by repeat' (first | with_reducible exact Below.refl _ _ | with_reducible assumption | with_reducible refine Below.drew ?_ | with_reducible refine Below.drewN ?_ _ | with_reducible refine Below.setCell ?_ (by simp <;> omega) _ | with_reducible refine Below.alloc ?_ (by simp <;> omega) _))).mono ?_
  rintro e' w2 ⟨rfl, hb2⟩
  have x2 : Bxr w2 (w.heap.size + 1) none 0 0 0 0 := Bxr.below ⟨⟨by simp, by simp, by simp⟩, by simp, by simp, by simp⟩ hb2 (by simp <;> omega)
  obtain ⟨⟨q0, q1, q2⟩, g0, g1, g2⟩ := x2
  have hbz : Below w.heap.size w w2 := (((Below.refl _ _).al (Nat.le_refl _) _).al (Nat.le_refl _) _).thn (Nat.le_refl _) hb2
  have hsz := hb2.size
  simp only [World.size_alloc] at hsz
  clear hb2
  go_wp2_with fail
  refine bodyPost_ret (ret_tc (A := A) (n := n) (c := c) (a := T) (e := 0) rfl rfl ⟨by go_simp, by go_simp, by go_simp⟩) rfl ⟨by simp [rdv], ?_⟩
  (repeat' (first | with_reducible exact Below.refl _ _ | with_reducible assumption | with_reducible refine Below.drew ?_ | with_reducible refine Below.drewN ?_ _ | with_reducible refine Below.setCell ?_ (by simp <;> omega) _ | with_reducible refine Below.alloc ?_ (by simp <;> omega) _))
/-- what the end tells -/
def enE (n : Nat) (a e : Int) : Int := if stE n a e ≠ 0 then stE n a e else if a < n then 12 else 0
set_option maxRecDepth 100000 in
theorem end_any (A : Option Addr) (n c : Nat) (a e : Int) (w : World) :
    Calls Try.prog 43 #[.agg #[.slice A n c, .int .i64 a, .int .i64 e]] w fun e' w' => e' = .returned (.int .i64 (enE n a e)) ∧ Below w.heap.size w w' := by
  obtain ⟨R, hR⟩ : ∃ R, R = enE n a e := ⟨_, rfl⟩
  rw [← hR]
  obtain ⟨E, hE⟩ : ∃ E, E = stE n a e := ⟨_, rfl⟩
  unfold enE at hR
  rw [← hE] at hR
  have HR := Lib.hid hR
  have H2 := Lib.hid hE
  clear hR hE
  by_cases h0 : E = 0
  · subst h0
    have h3 : decide ((0 : Int) = 0) = true := rfl
    by_cases hl : a < n
    · have hRv : R = 12 := by rw [HR.out, if_neg (by simp), if_pos hl]
      subst hRv
      go_enter Try.func43, Try.ntmps43
      go_wp2_with fail
      refine (stands_any A n c a e _).mono ?_
      rintro e' w2 ⟨rfl, rfl⟩
      rw [← H2.out]
      go_wp2_with fail
      go_ret
      refine ⟨rfl, ?_⟩
      (repeat' (first | with_reducible exact Below.refl _ _ | with_reducible assumption | with_reducible refine Below.drew ?_ | with_reducible refine Below.drewN ?_ _ | with_reducible refine Below.setCell ?_ (by simp <;> omega) _ | with_reducible refine Below.alloc ?_ (by simp <;> omega) _))
    · have hRv : R = 0 := by rw [HR.out, if_neg (by simp), if_neg hl]
      subst hRv
      go_enter Try.func43, Try.ntmps43
      go_wp2_with fail
      refine (stands_any A n c a e _).mono ?_
      rintro e' w2 ⟨rfl, rfl⟩
      rw [← H2.out]
      go_wp2_with fail
      go_ret
      refine ⟨rfl, ?_⟩
      (repeat' (first | with_reducible exact Below.refl _ _ | with_reducible assumption | with_reducible refine Below.drew ?_ | with_reducible refine Below.drewN ?_ _ | with_reducible refine Below.setCell ?_ (by simp <;> omega) _ | with_reducible refine Below.alloc ?_ (by simp <;> omega) _))
  · have h3 : decide (E = 0) = false := by simp [h0]
    have hRv : R = E := by rw [HR.out, if_pos h0]
    subst hRv
    go_enter Try.func43, Try.ntmps43
    go_wp2_with fail
    refine (stands_any A n c a e _).mono ?_
    rintro e' w2 ⟨rfl, rfl⟩
    rw [← H2.out, h3]
    go_wp2_with fail
    go_ret
    refine ⟨rfl, ?_⟩
    (repeat' (first | with_reducible exact Below.refl _ _ | with_reducible assumption | with_reducible refine Below.drew ?_ | with_reducible refine Below.drewN ?_ _ | with_reducible refine Below.setCell ?_ (by simp <;> omega) _ | with_reducible refine Below.alloc ?_ (by simp <;> omega) _))
end Go.Proofs.Ytodgnlhakafhoaa.Wr
