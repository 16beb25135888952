/- The layer wire: the program's reader. -/
import Derived.Test.YtodgnlhakafhoaaWir
import Derived.Test.YtodgnlhakafhoaaMemC
namespace Go.Proofs.Ytodgnlhakafhoaa.Wr
open Go.ChangeShapes Go.WideShapes Go.ChangeAt Go.RowKit
open Num Mem

/-- why so many bytes are refused; 0: they are not -/
def nxE (n : Nat) (a e k : Int) : Int := if stE n a e ≠ 0 then stE n a e else if (n : Int) - a < max k 0 then 10 else 0
set_option maxRecDepth 100000 in
set_option maxHeartbeats 2000000 in
theorem next_no (A : Option Addr) (n c : Nat) (a e k : Int) (w : World) (h1 : nxE n a e k ≠ 0) (hn : n ≤ 1000000000) :
    Calls Try.prog 76 #[.agg #[.slice A n c, .int .i64 a, .int .i64 e], .int .i64 k] w fun e' w' => e' = .returned (.tuple #[.slice none 0 0, .agg #[.slice A n c, .int .i64 a, .int .i64 (nxE n a e k)]]) ∧ Below w.heap.size w w' := by
  obtain ⟨E, hE⟩ : ∃ E, E = nxE n a e k := ⟨_, rfl⟩
  rw [← hE] at h1 ⊢
  by_cases hs : stE n a e = 0
  · have h2 : (n : Int) - a < (if k < 0 then 0 else k) ∧ E = 10 := by
      unfold nxE at hE
      rw [if_neg (by simp [hs])] at hE
      by_cases h3 : (n : Int) - a < max k 0
      · rw [if_pos h3] at hE
        exact ⟨by split <;> omega, hE⟩
      · rw [if_neg h3] at hE; exact absurd hE h1
    have hin : 0 ≤ a ∧ a ≤ n := by
      unfold stE at hs
      by_cases h4 : e = 0 ∧ (a < 0 ∨ (n : Int) < a)
      · rw [if_pos h4] at hs; cases hs
      · rw [if_neg h4] at hs; omega
    obtain ⟨h2, rfl⟩ := h2
    obtain ⟨hin1, hin2⟩ := hin
    have HS := Lib.hid hs
    clear hE hs h1
    obtain ⟨K, hK⟩ : ∃ K, (if k < 0 then (0 : Int) else k) = K := ⟨_, rfl⟩
    rw [hK] at h2
    go_enter Try.func76, Try.ntmps76
    go_wp2_with fail
    refine (stands_any A n c a e _).mono ?_
    rintro e' w2 ⟨rfl, rfl⟩
    rw [HS.out]
    go_wp2_with fail
    refine (fail_any A n c a 0 10 _).mono ?_
    rintro e' w' ⟨rfl, rfl⟩
    go_wp2_with fail
    refine bodyPost_ret (ret_tc (A := A) (n := n) (c := c) (a := a) (e := 10) rfl rfl ⟨by go_simp, by go_simp, by go_simp⟩) rfl ⟨by simp [rdv], ?_⟩
    (repeat' (first | with_reducible exact Below.refl _ _ | with_reducible assumption | with_reducible refine Below.drew ?_ | with_reducible refine Below.drewN ?_ _ | with_reducible refine Below.setCell ?_ (by simp <;> omega) _ | with_reducible refine Below.alloc ?_ (by simp <;> omega) _))
  · have h2 : E = stE n a e := by
      rw [hE]; unfold nxE; rw [if_pos hs]
    have h3 : decide (E = 0) = false := by simp [h1]
    have H2 := Lib.hid h2
    have H3 := Lib.hid h3
    clear h2 h3 hE hs
    go_enter Try.func76, Try.ntmps76
    go_wp2_with fail
    refine (stands_any A n c a e _).mono ?_
    rintro e' w2 ⟨rfl, rfl⟩
    rw [← H2.out, H3.out]
    go_wp2_with fail
    go_region
    all_goals go_wp2_with fail
    all_goals refine bodyPost_ret (ret_tc (A := A) (n := n) (c := c) (a := a) (e := E) rfl rfl ⟨by go_simp, by go_simp, by go_simp⟩) rfl ⟨by simp [rdv], ?_⟩
    all_goals (repeat' (first | with_reducible exact Below.refl _ _ | with_reducible assumption | with_reducible refine Below.drew ?_ | with_reducible refine Below.drewN ?_ _ | with_reducible refine Below.setCell ?_ (by simp <;> omega) _ | with_reducible refine Below.alloc ?_ (by simp <;> omega) _))
set_option maxRecDepth 100000 in
set_option maxHeartbeats 2000000 in
theorem fixed_no (A : Option Addr) (n c : Nat) (a e k : Int) (w : World) (h1 : nxE n a e k ≠ 0) (hn : n ≤ 1000000000) :
    Calls Try.prog 70 #[.agg #[.slice A n c, .int .i64 a, .int .i64 e], .int .i64 k] w fun e' w' => ∃ A', e' = .returned (.tuple #[.slice A' 0 0, .agg #[.slice A n c, .int .i64 a, .int .i64 (nxE n a e k)]]) ∧ Below w.heap.size w w' := by
  have hnext := fun w1 => next_no A n c a e k w1 h1 hn
  obtain ⟨E, hE⟩ : ∃ E, E = nxE n a e k := ⟨_, rfl⟩
  rw [← hE] at h1 hnext ⊢
  have HN := Lib.hid hnext
  clear hE hnext
  go_enter Try.func70, Try.ntmps70
  go_wp2_with fail
  refine (HN.out _).mono ?_
  rintro e' w2 ⟨rfl, hb2⟩
  have x1 : Bxr w2 w.heap.size A n c a e := Bxr.below ⟨⟨by simp, by simp, by simp⟩, by simp, by simp, by simp⟩ hb2 (by simp <;> omega)
  have x2 : Bxr w2 (w.heap.size + 1) none 0 0 0 0 := Bxr.below ⟨⟨by simp, by simp, by simp⟩, by simp, by simp, by simp⟩ hb2 (by simp <;> omega)
  obtain ⟨⟨p0, p1, p2⟩, f0, f1, f2⟩ := x1
  obtain ⟨⟨q0, q1, q2⟩, g0, g1, g2⟩ := x2
  have hbz : Below w.heap.size w w2 := (((Below.refl _ _).al (Nat.le_refl _) _).al (Nat.le_refl _) _).thn (Nat.le_refl _) hb2
  have hsz := hb2.size
  simp only [World.size_alloc] at hsz
  clear hb2
  go_wp2_with (first | (at_make; refine wpl_make (n := 0) (g := w2.heap.size + 1) (base := w2.heap.size + 1) rfl (by omega) (by simp) (by simp) ?_; intro w3 ho3 hb3) | (refine wpl_copy rfl rfl ho3 (Rd.nil _ 0 _) ?_; intro w4 ho4 hb4))
  have hb24 := hb3.trans hb4
  have y3 : Bxr w4 w2.heap.size A n c a E := Bxr.below ⟨⟨by simp, by simp, by simp⟩, by simp, by simp, by simp⟩ hb24 (by omega)
  have y2 : Bxr w4 (w.heap.size + 1) none 0 0 0 0 := Bxr.below (Bxr.below ⟨⟨q0, q1, q2⟩, g0, g1, g2⟩ (((Below.refl w2.heap.size w2)).al (Nat.le_refl _) _) (by omega)) hb24 (by omega)
  have hbz4 : Below w.heap.size w w4 := (hbz.al (Nat.le_refl _) _).trans (hb24.mono (by omega))
  clear hb3 hb4 hb24 ho3 ho4 hbz
  obtain ⟨⟨r0, r1, r2⟩, k0, k1, k2⟩ := y3
  obtain ⟨⟨s0, s1, s2⟩, l0, l1, l2⟩ := y2
  go_region
  all_goals go_wp2_with fail
  all_goals refine bodyPost_ret (ret_tc (A := A) (n := n) (c := c) (a := a) (e := E) rfl rfl ⟨by go_simp, by go_simp, by go_simp⟩) rfl ⟨_, by simp [rdv] <;> rfl, ?_⟩
  all_goals (repeat' (first | with_reducible exact Below.refl _ _ | with_reducible assumption | with_reducible refine Below.drew ?_ | with_reducible refine Below.drewN ?_ _ | with_reducible refine Below.setCell ?_ (by simp <;> omega) _ | with_reducible refine Below.alloc ?_ (by simp <;> omega) _))
set_option maxRecDepth 100000 in
set_option maxHeartbeats 2000000 in
theorem fixed_ok (A : Option Addr) (n c B q m : Nat) (k : Int) (xs : List UInt8) (w : World) (hr : Rd w B A n xs) (hB : B ≤ w.heap.size) (hnc : n ≤ c) (hn : n ≤ 1000000000) (hm : (m : Int) = max k 0) (hq : q + m ≤ n) :
    Calls Try.prog 70 #[.agg #[.slice A n c, .int .i64 q, .int .i64 0], .int .i64 k] w fun e' w' => ∃ A', e' = .returned (.tuple #[.slice A' m m, .agg #[.slice A n c, .int .i64 ((q + m : Nat) : Int), .int .i64 0]]) ∧ Own w' w.heap.size A' m m ((xs.drop q).take m) ∧ Below w.heap.size w w' := by
  have hnext := fun B1 w1 h1 h2 => next_ok A n c B1 q m k xs w1 h1 h2 hnc hn hm hq
  have hmn : m ≤ n := by omega
  obtain ⟨Q1, hQ1⟩ : ∃ Q1 : Int, Q1 = ((q + m : Nat) : Int) := ⟨_, rfl⟩
  rw [← hQ1] at hnext ⊢
  generalize (xs.drop q).take m = ys at hnext ⊢
  have HN := Lib.hid hnext
  have hrb : ∀ w', Below w.heap.size w w' → Rd w' B A n xs := fun _ h => hr.below' h hB
  have HRB := Lib.hid hrb
  clear hQ1 hnext hrb hm
  go_enter Try.func70, Try.ntmps70
  go_wp2_with fail
  refine (HN.out B _ (HRB.out _ (by repeat' (first | with_reducible exact Below.refl _ _ | with_reducible assumption | with_reducible refine Below.drew ?_ | with_reducible refine Below.drewN ?_ _ | with_reducible refine Below.setCell ?_ (by simp <;> omega) _ | with_reducible refine Below.alloc ?_ (by simp <;> omega) _))) (by simp; omega)).mono ?_
  rintro e' w2 ⟨A1, c1, rfl, hc1, hr0, hb2⟩
  have hr1 := hr0.below' hb2 (by simp; omega)
  clear hr0
  have x1 : Bxr w2 w.heap.size A n c q 0 := Bxr.below ⟨⟨by simp, by simp, by simp⟩, by simp, by simp, by simp⟩ hb2 (by simp <;> omega)
  have x2 : Bxr w2 (w.heap.size + 1) none 0 0 0 0 := Bxr.below ⟨⟨by simp, by simp, by simp⟩, by simp, by simp, by simp⟩ hb2 (by simp <;> omega)
  obtain ⟨⟨p0, p1, p2⟩, f0, f1, f2⟩ := x1
  obtain ⟨⟨q0, q1, q2⟩, g0, g1, g2⟩ := x2
  have hbz : Below w.heap.size w w2 := (((Below.refl _ _).al (Nat.le_refl _) _).al (Nat.le_refl _) _).thn (Nat.le_refl _) hb2
  have hsz := hb2.size
  simp only [World.size_alloc] at hsz
  clear hb2
  go_wp2_with (first | (at_make; refine wpl_make (n := m) (g := w2.heap.size + 1) (base := w2.heap.size + 1) rfl (by omega) (by simp) (by simp) ?_; intro w3 ho3 hb3) | (refine wpl_copy rfl rfl ho3 ((hr1.alloc (by omega) _).below' hb3 (by omega)) ?_; intro w4 ho4 hb4))
  have hb24 := hb3.trans hb4
  have y3 : Bxr w4 w2.heap.size A n c Q1 0 := Bxr.below ⟨⟨by simp, by simp, by simp⟩, by simp, by simp, by simp⟩ hb24 (by omega)
  have y2 : Bxr w4 (w.heap.size + 1) none 0 0 0 0 := Bxr.below (Bxr.below ⟨⟨q0, q1, q2⟩, g0, g1, g2⟩ (((Below.refl w2.heap.size w2)).al (Nat.le_refl _) _) (by omega)) hb24 (by omega)
  have hbz4 : Below w.heap.size w w4 := (hbz.al (Nat.le_refl _) _).trans (hb24.mono (by omega))
  clear hb3 hb4 hb24 ho3 hbz hr1
  obtain ⟨⟨r0, r1, r2⟩, k0, k1, k2⟩ := y3
  obtain ⟨⟨s0, s1, s2⟩, l0, l1, l2⟩ := y2
  go_region
  all_goals go_wp2_with fail
  all_goals refine bodyPost_ret (ret_tc (A := A) (n := n) (c := c) (a := Q1) (e := 0) rfl rfl ⟨by go_simp, by go_simp, by go_simp⟩) rfl ⟨_, by simp [rdv] <;> rfl, ?_, ?_⟩
  all_goals first
    | ((repeat' (first | with_reducible exact Below.refl _ _ | with_reducible assumption | with_reducible refine Below.drew ?_ | with_reducible refine Below.drewN ?_ _ | with_reducible refine Below.setCell ?_ (by simp <;> omega) _ | with_reducible refine Below.alloc ?_ (by simp <;> omega) _)); done)
    | (refine Own.less (base := w2.heap.size + 1) ?_ (by omega); (repeat' (first | with_reducible exact ho4 | with_reducible refine Own.drew ?_ | with_reducible refine Own.setAt ?_ (by omega) _ _)))
end Go.Proofs.Ytodgnlhakafhoaa.Wr
