/- The layer wire: the program's reader, numbers. -/
import Derived.Test.YtodgnlhakafhoaaWirA
namespace Go.Proofs.Ytodgnlhakafhoaa.Wr
open Go.ChangeShapes Go.WideShapes Go.ChangeAt Go.RowKit
open Num Mem
set_option maxRecDepth 100000 in
set_option maxHeartbeats 2000000 in
theorem number_no0_long (A : Option Addr) (n c : Nat) (a e : Int) (w : World) (h1 : stE n a e ≠ 0) :
    Calls Try.prog 78 #[.agg #[.slice A n c, .int .i64 a, .int .i64 e], .func (.func 16) #[] #[]] w fun e' w' => e' = .returned (.tuple #[.int .i64 0, .agg #[.slice A n c, .int .i64 a, .int .i64 (stE n a e)]]) ∧ Below w.heap.size w w' := by
  obtain ⟨E, hE⟩ : ∃ E, E = stE n a e := ⟨_, rfl⟩
  have h3 : decide (E = 0) = false := by rw [hE]; simp [h1]
  rw [← hE] at h1 ⊢
  have H2 := Lib.hid hE
  have H3 := Lib.hid h3
  clear h3 hE
  go_enter Try.func78, Try.ntmps78
  go_wp2_with fail
  refine (stands_any A n c a e _).mono ?_
  rintro e' w2 ⟨rfl, rfl⟩
  rw [← H2.out, H3.out]
  go_wp2_with fail
  go_region
  all_goals go_wp2_with fail
  all_goals refine bodyPost_ret (ret_tc (A := A) (n := n) (c := c) (a := a) (e := E) rfl rfl ⟨by go_simp, by go_simp, by go_simp⟩) rfl ⟨by simp [rdv], ?_⟩
  all_goals (repeat' (first | with_reducible exact Below.refl _ _ | with_reducible assumption | with_reducible refine Below.drew ?_ | with_reducible refine Below.drewN ?_ _ | with_reducible refine Below.setCell ?_ (by simp <;> omega) _ | with_reducible refine Below.alloc ?_ (by simp <;> omega) _))
set_option maxRecDepth 100000 in
set_option maxHeartbeats 2000000 in
theorem number_err_long (A : Option Addr) (n c : Nat) (a N T E : Int) (w : World) (hs : stE n a 0 = 0) (h1 : E ≠ 0)
    (hT : ∀ w1, Below w.heap.size w w1 → Calls Try.prog 16 #[.slice A n c, .int .i64 a] w1 fun e w' => e = .returned (.tuple #[.int .i64 N, .int .i64 T, .int .i64 E]) ∧ Below w1.heap.size w1 w') :
    Calls Try.prog 78 #[.agg #[.slice A n c, .int .i64 a, .int .i64 0], .func (.func 16) #[] #[]] w fun e' w' => e' = .returned (.tuple #[.int .i64 0, .agg #[.slice A n c, .int .i64 a, .int .i64 E]]) ∧ Below w.heap.size w w' := by
  have h3 : (E != 0) = true := by simp [h1]
  have HS := Lib.hid hs
  have HT := Lib.hid hT
  clear hs hT
  go_enter Try.func78, Try.ntmps78
  go_wp2_with fail
  refine (stands_any A n c a 0 _).mono ?_
  rintro e' w2 ⟨rfl, rfl⟩
  rw [HS.out]
  go_wp2_with fail
  refine (HT.out _ (by repeat' (first | with_reducible exact Below.refl _ _ | with_reducible assumption | with_reducible refine Below.drew ?_ | with_reducible refine Below.drewN ?_ _ | with_reducible refine Below.setCell ?_ (by simp <;> omega) _ | with_reducible refine Below.alloc ?_ (by simp <;> omega) _))).mono ?_
  rintro e' w2 ⟨rfl, hb2⟩
  have x1 : Bxr w2 w.heap.size A n c a 0 := Bxr.below ⟨⟨by go_simp, by go_simp, by go_simp⟩, by go_simp, by go_simp, by go_simp⟩ hb2 (by simp <;> omega)
  have x2 : Bxr w2 (w.heap.size + 1) none 0 0 0 0 := Bxr.below ⟨⟨by go_simp, by go_simp, by go_simp⟩, by go_simp, by go_simp, by go_simp⟩ hb2 (by simp <;> omega)
  obtain ⟨⟨p0, p1, p2⟩, f0, f1, f2⟩ := x1
  obtain ⟨⟨q0, q1, q2⟩, g0, g1, g2⟩ := x2
  have hsz := hb2.size
  simp only [World.size_alloc, World.size_drew] at hsz
  have hs0 : w.heap.size < w2.heap.size := by omega
  have hs1 : w.heap.size + 1 < w2.heap.size := by omega
  have hs2 : w.heap.size < w2.heap.size + 1 := by omega
  have hs3 : w.heap.size + 1 < w2.heap.size + 1 := by omega
  have hs4 : ¬ w.heap.size + 1 = w2.heap.size := by omega
  have hs5 : ¬ w.heap.size + 1 = w2.heap.size + 1 := by omega
  have hbz : Below w.heap.size w w2 := Below.thn (a := w) (by repeat' (first | with_reducible exact Below.refl _ _ | with_reducible assumption | with_reducible refine Below.drew ?_ | with_reducible refine Below.drewN ?_ _ | with_reducible refine Below.setCell ?_ (by simp <;> omega) _ | with_reducible refine Below.alloc ?_ (by simp <;> omega) _)) (Nat.le_refl _) hb2
  clear hb2
  go_wp2_with fail
  refine (fail_any A n c a 0 E _).mono ?_
  rintro e' w3 ⟨rfl, rfl⟩
  go_wp2_with fail
  refine bodyPost_ret (ret_tc (A := A) (n := n) (c := c) (a := a) (e := E) rfl rfl ⟨by go_simp, by go_simp, by go_simp⟩) rfl ⟨by simp [rdv], ?_⟩
  (repeat' (first | with_reducible exact Below.refl _ _ | with_reducible assumption | with_reducible refine Below.drew ?_ | with_reducible refine Below.drewN ?_ _ | with_reducible refine Below.setCell ?_ (by simp <;> omega) _ | with_reducible refine Below.alloc ?_ (by simp <;> omega) _))
set_option maxRecDepth 100000 in
set_option maxHeartbeats 2000000 in
theorem number_ok_long (A : Option Addr) (n c : Nat) (a N T E : Int) (w : World) (hs : stE n a 0 = 0) (h1 : E = 0)
    (hT : ∀ w1, Below w.heap.size w w1 → Calls Try.prog 16 #[.slice A n c, .int .i64 a] w1 fun e w' => e = .returned (.tuple #[.int .i64 N, .int .i64 T, .int .i64 E]) ∧ Below w1.heap.size w1 w') :
    Calls Try.prog 78 #[.agg #[.slice A n c, .int .i64 a, .int .i64 0], .func (.func 16) #[] #[]] w fun e' w' => e' = .returned (.tuple #[.int .i64 N, .agg #[.slice A n c, .int .i64 T, .int .i64 0]]) ∧ Below w.heap.size w w' := by
  subst h1
  have HS := Lib.hid hs
  have HT := Lib.hid hT
  clear hs hT
  go_enter Try.func78, Try.ntmps78
  go_wp2_with fail
  refine (stands_any A n c a 0 _).mono ?_
  rintro e' w2 ⟨rfl, rfl⟩
  rw [HS.out]
  go_wp2_with fail
  refine (HT.out _ (by repeat' (first | with_reducible exact Below.refl _ _ | with_reducible assumption | with_reducible refine Below.drew ?_ | with_reducible refine Below.drewN ?_ _ | with_reducible refine Below.setCell ?_ (by simp <;> omega) _ | with_reducible refine Below.alloc ?_ (by simp <;> omega) _))).mono ?_
  rintro e' w2 ⟨rfl, hb2⟩
  have x1 : Bxr w2 w.heap.size A n c a 0 := Bxr.below ⟨⟨by go_simp, by go_simp, by go_simp⟩, by go_simp, by go_simp, by go_simp⟩ hb2 (by simp <;> omega)
  have x2 : Bxr w2 (w.heap.size + 1) none 0 0 0 0 := Bxr.below ⟨⟨by go_simp, by go_simp, by go_simp⟩, by go_simp, by go_simp, by go_simp⟩ hb2 (by simp <;> omega)
  obtain ⟨⟨p0, p1, p2⟩, f0, f1, f2⟩ := x1
  obtain ⟨⟨q0, q1, q2⟩, g0, g1, g2⟩ := x2
  have hsz := hb2.size
  simp only [World.size_alloc, World.size_drew] at hsz
  have hs0 : w.heap.size < w2.heap.size := by omega
  have hs1 : w.heap.size + 1 < w2.heap.size := by omega
  have hs2 : w.heap.size < w2.heap.size + 1 := by omega
  have hs3 : w.heap.size + 1 < w2.heap.size + 1 := by omega
  have hs4 : ¬ w.heap.size + 1 = w2.heap.size := by omega
  have hs5 : ¬ w.heap.size + 1 = w2.heap.size + 1 := by omega
  have hbz : Below w.heap.size w w2 := Below.thn (a := w) (by repeat' (first | with_reducible exact Below.refl _ _ | with_reducible assumption | with_reducible refine Below.drew ?_ | with_reducible refine Below.drewN ?_ _ | with_reducible refine Below.setCell ?_ (by simp <;> omega) _ | with_reducible refine Below.alloc ?_ (by simp <;> omega) _)) (Nat.le_refl _) hb2
  clear hb2
  go_wp2_with fail
  go_region
  all_goals go_wp2_with fail
  all_goals refine bodyPost_ret (ret_tc (A := A) (n := n) (c := c) (a := T) (e := 0) rfl rfl ⟨by go_simp, by go_simp, by go_simp⟩) rfl ⟨by simp [rdv], ?_⟩
  all_goals (repeat' (first | with_reducible exact Below.refl _ _ | with_reducible assumption | with_reducible refine Below.drew ?_ | with_reducible refine Below.drewN ?_ _ | with_reducible refine Below.setCell ?_ (by simp <;> omega) _ | with_reducible refine Below.alloc ?_ (by simp <;> omega) _))
set_option maxRecDepth 100000 in
set_option maxHeartbeats 2000000 in
theorem number_no0_int (A : Option Addr) (n c : Nat) (a e : Int) (w : World) (h1 : stE n a e ≠ 0) :
    Calls Try.prog 78 #[.agg #[.slice A n c, .int .i64 a, .int .i64 e], .func (.func 18) #[] #[]] w fun e' w' => e' = .returned (.tuple #[.int .i64 0, .agg #[.slice A n c, .int .i64 a, .int .i64 (stE n a e)]]) ∧ Below w.heap.size w w' := by
  obtain ⟨E, hE⟩ : ∃ E, E = stE n a e := ⟨_, rfl⟩
  have h3 : decide (E = 0) = false := by rw [hE]; simp [h1]
  rw [← hE] at h1 ⊢
  have H2 := Lib.hid hE
  have H3 := Lib.hid h3
  clear h3 hE
  go_enter Try.func78, Try.ntmps78
  go_wp2_with fail
  refine (stands_any A n c a e _).mono ?_
  rintro e' w2 ⟨rfl, rfl⟩
  rw [← H2.out, H3.out]
  go_wp2_with fail
  go_region
  all_goals go_wp2_with fail
  all_goals refine bodyPost_ret (ret_tc (A := A) (n := n) (c := c) (a := a) (e := E) rfl rfl ⟨by go_simp, by go_simp, by go_simp⟩) rfl ⟨by simp [rdv], ?_⟩
  all_goals (repeat' (first | with_reducible exact Below.refl _ _ | with_reducible assumption | with_reducible refine Below.drew ?_ | with_reducible refine Below.drewN ?_ _ | with_reducible refine Below.setCell ?_ (by simp <;> omega) _ | with_reducible refine Below.alloc ?_ (by simp <;> omega) _))
set_option maxRecDepth 100000 in
set_option maxHeartbeats 2000000 in
theorem number_err_int (A : Option Addr) (n c : Nat) (a N T E : Int) (w : World) (hs : stE n a 0 = 0) (h1 : E ≠ 0)
    (hT : ∀ w1, Below w.heap.size w w1 → Calls Try.prog 18 #[.slice A n c, .int .i64 a] w1 fun e w' => e = .returned (.tuple #[.int .i64 N, .int .i64 T, .int .i64 E]) ∧ Below w1.heap.size w1 w') :
    Calls Try.prog 78 #[.agg #[.slice A n c, .int .i64 a, .int .i64 0], .func (.func 18) #[] #[]] w fun e' w' => e' = .returned (.tuple #[.int .i64 0, .agg #[.slice A n c, .int .i64 a, .int .i64 E]]) ∧ Below w.heap.size w w' := by
  have h3 : (E != 0) = true := by simp [h1]
  have HS := Lib.hid hs
  have HT := Lib.hid hT
  clear hs hT
  go_enter Try.func78, Try.ntmps78
  go_wp2_with fail
  refine (stands_any A n c a 0 _).mono ?_
  rintro e' w2 ⟨rfl, rfl⟩
  rw [HS.out]
  go_wp2_with fail
  refine (HT.out _ (by repeat' (first | with_reducible exact Below.refl _ _ | with_reducible assumption | with_reducible refine Below.drew ?_ | with_reducible refine Below.drewN ?_ _ | with_reducible refine Below.setCell ?_ (by simp <;> omega) _ | with_reducible refine Below.alloc ?_ (by simp <;> omega) _))).mono ?_
  rintro e' w2 ⟨rfl, hb2⟩
  have x1 : Bxr w2 w.heap.size A n c a 0 := Bxr.below ⟨⟨by go_simp, by go_simp, by go_simp⟩, by go_simp, by go_simp, by go_simp⟩ hb2 (by simp <;> omega)
  have x2 : Bxr w2 (w.heap.size + 1) none 0 0 0 0 := Bxr.below ⟨⟨by go_simp, by go_simp, by go_simp⟩, by go_simp, by go_simp, by go_simp⟩ hb2 (by simp <;> omega)
  obtain ⟨⟨p0, p1, p2⟩, f0, f1, f2⟩ := x1
  obtain ⟨⟨q0, q1, q2⟩, g0, g1, g2⟩ := x2
  have hsz := hb2.size
  simp only [World.size_alloc, World.size_drew] at hsz
  have hs0 : w.heap.size < w2.heap.size := by omega
  have hs1 : w.heap.size + 1 < w2.heap.size := by omega
  have hs2 : w.heap.size < w2.heap.size + 1 := by omega
  have hs3 : w.heap.size + 1 < w2.heap.size + 1 := by omega
  have hs4 : ¬ w.heap.size + 1 = w2.heap.size := by omega
  have hs5 : ¬ w.heap.size + 1 = w2.heap.size + 1 := by omega
  have hbz : Below w.heap.size w w2 := Below.thn (a := w) (by repeat' (first | with_reducible exact Below.refl _ _ | with_reducible assumption | with_reducible refine Below.drew ?_ | with_reducible refine Below.drewN ?_ _ | with_reducible refine Below.setCell ?_ (by simp <;> omega) _ | with_reducible refine Below.alloc ?_ (by simp <;> omega) _)) (Nat.le_refl _) hb2
  clear hb2
  go_wp2_with fail
  refine (fail_any A n c a 0 E _).mono ?_
  rintro e' w3 ⟨rfl, rfl⟩
  go_wp2_with fail
  refine bodyPost_ret (ret_tc (A := A) (n := n) (c := c) (a := a) (e := E) rfl rfl ⟨by go_simp, by go_simp, by go_simp⟩) rfl ⟨by simp [rdv], ?_⟩
  (repeat' (first | with_reducible exact Below.refl _ _ | with_reducible assumption | with_reducible refine Below.drew ?_ | with_reducible refine Below.drewN ?_ _ | with_reducible refine Below.setCell ?_ (by simp <;> omega) _ | with_reducible refine Below.alloc ?_ (by simp <;> omega) _))
set_option maxRecDepth 100000 in
set_option maxHeartbeats 2000000 in
theorem number_ok_int (A : Option Addr) (n c : Nat) (a N T E : Int) (w : World) (hs : stE n a 0 = 0) (h1 : E = 0)
    (hT : ∀ w1, Below w.heap.size w w1 → Calls Try.prog 18 #[.slice A n c, .int .i64 a] w1 fun e w' => e = .returned (.tuple #[.int .i64 N, .int .i64 T, .int .i64 E]) ∧ Below w1.heap.size w1 w') :
    Calls Try.prog 78 #[.agg #[.slice A n c, .int .i64 a, .int .i64 0], .func (.func 18) #[] #[]] w fun e' w' => e' = .returned (.tuple #[.int .i64 N, .agg #[.slice A n c, .int .i64 T, .int .i64 0]]) ∧ Below w.heap.size w w' := by
  subst h1
  have HS := Lib.hid hs
  have HT := Lib.hid hT
  clear hs hT
  go_enter Try.func78, Try.ntmps78
  go_wp2_with fail
  refine (stands_any A n c a 0 _).mono ?_
  rintro e' w2 ⟨rfl, rfl⟩
  rw [HS.out]
  go_wp2_with fail
  refine (HT.out _ (by repeat' (first | with_reducible exact Below.refl _ _ | with_reducible assumption | with_reducible refine Below.drew ?_ | with_reducible refine Below.drewN ?_ _ | with_reducible refine Below.setCell ?_ (by simp <;> omega) _ | with_reducible refine Below.alloc ?_ (by simp <;> omega) _))).mono ?_
  rintro e' w2 ⟨rfl, hb2⟩
  have x1 : Bxr w2 w.heap.size A n c a 0 := Bxr.below ⟨⟨by go_simp, by go_simp, by go_simp⟩, by go_simp, by go_simp, by go_simp⟩ hb2 (by simp <;> omega)
  have x2 : Bxr w2 (w.heap.size + 1) none 0 0 0 0 := Bxr.below ⟨⟨by go_simp, by go_simp, by go_simp⟩, by go_simp, by go_simp, by go_simp⟩ hb2 (by simp <;> omega)
  obtain ⟨⟨p0, p1, p2⟩, f0, f1, f2⟩ := x1
  obtain ⟨⟨q0, q1, q2⟩, g0, g1, g2⟩ := x2
  have hsz := hb2.size
  simp only [World.size_alloc, World.size_drew] at hsz
  have hs0 : w.heap.size < w2.heap.size := by omega
  have hs1 : w.heap.size + 1 < w2.heap.size := by omega
  have hs2 : w.heap.size < w2.heap.size + 1 := by omega
  have hs3 : w.heap.size + 1 < w2.heap.size + 1 := by omega
  have hs4 : ¬ w.heap.size + 1 = w2.heap.size := by omega
  have hs5 : ¬ w.heap.size + 1 = w2.heap.size + 1 := by omega
  have hbz : Below w.heap.size w w2 := Below.thn (a := w) (by repeat' (first | with_reducible exact Below.refl _ _ | with_reducible assumption | with_reducible refine Below.drew ?_ | with_reducible refine Below.drewN ?_ _ | with_reducible refine Below.setCell ?_ (by simp <;> omega) _ | with_reducible refine Below.alloc ?_ (by simp <;> omega) _)) (Nat.le_refl _) hb2
  clear hb2
  go_wp2_with fail
  go_region
  all_goals go_wp2_with fail
  all_goals refine bodyPost_ret (ret_tc (A := A) (n := n) (c := c) (a := T) (e := 0) rfl rfl ⟨by go_simp, by go_simp, by go_simp⟩) rfl ⟨by simp [rdv], ?_⟩
  all_goals (repeat' (first | with_reducible exact Below.refl _ _ | with_reducible assumption | with_reducible refine Below.drew ?_ | with_reducible refine Below.drewN ?_ _ | with_reducible refine Below.setCell ?_ (by simp <;> omega) _ | with_reducible refine Below.alloc ?_ (by simp <;> omega) _))
end Go.Proofs.Ytodgnlhakafhoaa.Wr
