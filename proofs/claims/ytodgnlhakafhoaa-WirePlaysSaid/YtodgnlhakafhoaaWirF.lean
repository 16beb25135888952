/- The layer wire: the program's reader, bytes. -/
import Derived.Test.YtodgnlhakafhoaaWirD
namespace Go.Proofs.Ytodgnlhakafhoaa.Wr
open Go.ChangeShapes Go.WideShapes Go.ChangeAt Go.RowKit
open Num Mem
set_option maxRecDepth 100000 in
set_option maxHeartbeats 2000000 in
theorem bytes_ok (A : Option Addr) (n c B : Nat) (a e : Int) (xs : List UInt8) (w : World) (hr : Rd w B A n xs) (hB : B ≤ w.heap.size) (hnc : n ≤ c) (hn : n ≤ 1000000000) (h1 : byE n xs a e = 0) :
    Calls Try.prog 50 #[.agg #[.slice A n c, .int .i64 a, .int .i64 e]] w fun e' w' => ∃ A' m, e' = .returned (.tuple #[.slice A' m m, .agg #[.slice A n c, .int .i64 (Vr.tkTo 10 1 xs a + Vr.tkN 10 1 xs a), .int .i64 0]]) ∧ Own w' w.heap.size A' m m (byL xs a) ∧ Below w.heap.size w w' := by
  have hl := hr.len
  obtain ⟨hln0, hN1, hN2, hN3⟩ := byE_zero h1
  obtain ⟨he0, hse, htk⟩ := lnE_zero hln0
  obtain ⟨_, ha1, ha2⟩ := stE_zero hse
  obtain ⟨q, hq, hqn, _⟩ := tk_at (n := n) (by omega) (by omega) hl ha1 ha2 htk
  subst he0
  have hlong := fun w1 (hw : Below w.heap.size w w1) => long_ok A n c B a 0 xs w1 (hr.below' hw hB) (Nat.le_trans hB hw.size) hnc hn hln0
  unfold byL
  rw [hq] at hlong hN3 ⊢
  generalize Vr.tkN 10 1 xs a = N at hlong hN1 hN2 hN3 ⊢
  obtain ⟨m, rfl⟩ := Int.eq_ofNat_of_zero_le hN1
  have hfx := fun w1 (hw : Below w.heap.size w w1) => fixed_ok A n c B q m m xs w1 (hr.below' hw hB) (Nat.le_trans hB hw.size) hnc hn (by omega) (by omega)
  rw [Int.toNat_natCast, Int.toNat_natCast]
  rw [show ((q + m : Nat) : Int) = (q : Int) + m by simp] at hfx
  generalize (xs.drop q).take m = ys at hfx ⊢
  have g1 : ¬ (m : Int) < 0 := by omega
  have g2 : ¬ 20000 < (m : Int) := by omega
  have HLG := Lib.hid hlong
  have HFX := Lib.hid hfx
  clear hlong hln0 hse htk h1 hfx hN3 hN1 hN2
  go_enter Try.func50, Try.ntmps50
  go_wp2_with fail
  refine (HLG.out _ (by repeat' (first | with_reducible exact Below.refl _ _ | with_reducible assumption | with_reducible refine Below.drew ?_ | with_reducible refine Below.drewN ?_ _ | with_reducible refine Below.setCell ?_ (by simp <;> omega) _ | with_reducible refine Below.alloc ?_ (by simp <;> omega) _))).mono ?_
  rintro e' w2 ⟨rfl, hb2⟩
  have x1 : Bxr w2 w.heap.size A n c a 0 := Bxr.below ⟨⟨by simp, by simp, by simp⟩, by simp, by simp, by simp⟩ hb2 (by simp <;> omega)
  have x2 : Bxr w2 (w.heap.size + 1) none 0 0 0 0 := Bxr.below ⟨⟨by simp, by simp, by simp⟩, by simp, by simp, by simp⟩ hb2 (by simp <;> omega)
  have hbz : Below w.heap.size w w2 := (((Below.refl _ _).al (Nat.le_refl _) _).al (Nat.le_refl _) _).thn (Nat.le_refl _) hb2
  have hsz := hb2.size
  simp only [World.size_alloc] at hsz
  have hs0_w2 : w.heap.size < w2.heap.size := by omega
  have hs1_w2 : w.heap.size + 1 < w2.heap.size := by omega
  have hs2_w2 : w.heap.size < w2.heap.size + 1 := by omega
  have hs3_w2 : w.heap.size + 1 < w2.heap.size + 1 := by omega
  have hs4_w2 : ¬ w.heap.size + 1 = w2.heap.size := by omega
  have hs5_w2 : ¬ w.heap.size + 1 = w2.heap.size + 1 := by omega
  obtain ⟨⟨p0, p1, p2⟩, f0, f1, f2⟩ := x1
  obtain ⟨⟨q0, q1, q2⟩, g0, g1, g2⟩ := x2
  clear hb2
  go_wp2_with fail
  refine (HFX.out _ (hbz.al (Nat.le_refl _) _)).mono ?_
  rintro e' w3 ⟨A3, rfl, ho3, hb3⟩
  have y1 : Bxr w3 w.heap.size A n c a 0 := Bxr.below (Bxr.below ⟨⟨p0, p1, p2⟩, f0, f1, f2⟩ ((Below.refl w2.heap.size w2).al (Nat.le_refl _) _) (by omega)) hb3 (by simp; omega)
  have y2 : Bxr w3 (w.heap.size + 1) none 0 0 0 0 := Bxr.below (Bxr.below ⟨⟨q0, q1, q2⟩, g0, g1, g2⟩ ((Below.refl w2.heap.size w2).al (Nat.le_refl _) _) (by omega)) hb3 (by simp; omega)
  have y3 : Bxr w3 w2.heap.size A n c q 0 := Bxr.below ⟨⟨by simp, by simp, by simp⟩, by simp, by simp, by simp⟩ hb3 (by simp)
  have hbz3 : Below w.heap.size w w3 := (hbz.al (Nat.le_refl _) _).thn (Nat.le_refl _) hb3
  have hsz3 := hb3.size
  simp only [World.size_alloc] at hsz3
  have hs0_w3 : w.heap.size < w3.heap.size := by omega
  have hs1_w3 : w.heap.size + 1 < w3.heap.size := by omega
  have hs2_w3 : w.heap.size < w3.heap.size + 1 := by omega
  have hs3_w3 : w.heap.size + 1 < w3.heap.size + 1 := by omega
  have hs4_w3 : ¬ w.heap.size + 1 = w3.heap.size := by omega
  have hs5_w3 : ¬ w.heap.size + 1 = w3.heap.size + 1 := by omega
  have ht0 : w2.heap.size < w3.heap.size := by omega
  have ht1 : w2.heap.size < w3.heap.size + 1 := by omega
  have ht2 : ¬ w2.heap.size = w.heap.size := by omega
  have ht3 : ¬ w2.heap.size = w.heap.size + 1 := by omega
  have ht4 : ¬ w.heap.size = w2.heap.size := by omega
  obtain ⟨⟨p0', p1', p2'⟩, f0', f1', f2'⟩ := y1
  obtain ⟨⟨q0', q1', q2'⟩, g0', g1', g2'⟩ := y2
  obtain ⟨⟨r0, r1, r2⟩, k0, k1, k2⟩ := y3
  clear hb3 p0 p1 p2 f0 f1 f2 q0 q1 q2 g0 g1 g2
  go_wp2_with fail
  go_region
  all_goals go_wp2_with fail
  all_goals refine bodyPost_ret (ret_tc (A := A) (n := n) (c := c) (a := ((q : Int) + m)) (e := 0) rfl rfl ⟨by go_simp, by go_simp, by go_simp⟩) rfl ⟨A3, m, by simp [rdv], ?_, ?_⟩
  all_goals first
    | ((repeat' (first | with_reducible exact Below.refl _ _ | with_reducible assumption | with_reducible refine Below.drew ?_ | with_reducible refine Below.drewN ?_ _ | with_reducible refine Below.setCell ?_ (by simp <;> omega) _ | with_reducible refine Below.alloc ?_ (by simp <;> omega) _)); done)
    | (refine Own.less (base := w2.heap.size + 1) ?_ (by omega); rw [World.size_alloc] at ho3; (repeat' (first | with_reducible exact ho3 | with_reducible refine Own.drew ?_ | with_reducible refine Own.setAt ?_ (by omega) _ _)))
end Go.Proofs.Ytodgnlhakafhoaa.Wr
