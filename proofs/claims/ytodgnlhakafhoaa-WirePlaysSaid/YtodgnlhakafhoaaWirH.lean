/- The layer wire: the program's reader, truths. -/
import Derived.Test.YtodgnlhakafhoaaWirG
namespace Go.Proofs.Ytodgnlhakafhoaa.Wr
open Go.ChangeShapes Go.WideShapes Go.ChangeAt Go.RowKit
open Num Mem

theorem nxE_zero {n : Nat} {a e k : Int} (h : nxE n a e k = 0) : e = 0 ∧ 0 ≤ a ∧ a ≤ n ∧ max k 0 ≤ (n : Int) - a := by
  unfold nxE at h
  by_cases hs : stE n a e ≠ 0
  · rw [if_pos hs] at h; exact absurd h hs
  · rw [if_neg hs] at h
    obtain ⟨h1, h2, h3⟩ := stE_zero (by simpa using hs)
    by_cases h4 : (n : Int) - a < max k 0
    · rw [if_pos h4] at h; cases h
    · exact ⟨h1, h2, h3, by omega⟩
set_option maxRecDepth 100000 in
set_option maxHeartbeats 2000000 in
theorem bool_no1 (A : Option Addr) (n c : Nat) (a e : Int) (w : World) (h1 : nxE n a e 1 ≠ 0) (hn : n ≤ 1000000000) :
    Calls Try.prog 46 #[.agg #[.slice A n c, .int .i64 a, .int .i64 e]] w fun e' w' => e' = .returned (.tuple #[.int .i64 0, .agg #[.slice A n c, .int .i64 a, .int .i64 (nxE n a e 1)]]) ∧ Below w.heap.size w w' := by
  have hnext := fun w1 => next_no A n c a e 1 w1 h1 hn
  obtain ⟨R, hR⟩ : ∃ R, R = nxE n a e 1 := ⟨_, rfl⟩
  rw [← hR] at h1 hnext ⊢
  have h3 : (R != 0) = true := by simp [h1]
  have HN := Lib.hid hnext
  clear hR hnext
  go_enter Try.func46, Try.ntmps46
  go_wp2_with fail
  refine (HN.out _).mono ?_
  rintro e' w2 ⟨rfl, hb2⟩
  have x1 : Bxr w2 w.heap.size A n c a e := Bxr.below ⟨⟨by simp, by simp, by simp⟩, by simp, by simp, by simp⟩ hb2 (by simp <;> omega)
  have x2 : Bxr w2 (w.heap.size + 1) none 0 0 0 0 := Bxr.below ⟨⟨by simp, by simp, by simp⟩, by simp, by simp, by simp⟩ hb2 (by simp <;> omega)
  have hbz : Below w.heap.size w w2 := (((Below.refl _ _).al (Nat.le_refl _) _).al (Nat.le_refl _) _).thn (Nat.le_refl _) hb2
  have hsz := hb2.size
  simp only [World.size_alloc] at hsz
  have hs0_w2 : w.heap.size < w2.heap.size := by omega
  have hs1_w2 : w.heap.size + 1 < w2.heap.size := by omega
  have hs2_w2 : w.heap.size < w2.heap.size + 1 := by omega
  have hs3_w2 : w.heap.size + 1 < w2.heap.size + 1 := by omega
  have hs4_w2 : ¬ w.heap.size + 1 = w2.heap.size := by omega
  have hs5_w2 : ¬ w.heap.size + 1 = w2.heap.size + 1 := by omega
  obtain ⟨⟨p0, p1, p2⟩, f0, f1, f2⟩ := x1
  obtain ⟨⟨q0, q1, q2⟩, g0, g1, g2⟩ := x2
  clear hb2
  go_wp2_with fail
  go_region
  all_goals go_wp2_with fail
  all_goals refine bodyPost_ret (ret_tc (A := A) (n := n) (c := c) (a := a) (e := R) rfl rfl ⟨by go_simp, by go_simp, by go_simp⟩) rfl ⟨by simp [rdv], ?_⟩
  all_goals (repeat' (first | with_reducible exact Below.refl _ _ | with_reducible assumption | with_reducible refine Below.drew ?_ | with_reducible refine Below.drewN ?_ _ | with_reducible refine Below.setCell ?_ (by simp <;> omega) _ | with_reducible refine Below.alloc ?_ (by simp <;> omega) _))
set_option maxRecDepth 100000 in
set_option maxHeartbeats 2000000 in
theorem bool_no2 (A : Option Addr) (n c B q : Nat) (xs : List UInt8) (x : UInt8) (w : World) (hr : Rd w B A n xs) (hB : B ≤ w.heap.size) (hnc : n ≤ c) (hn : n ≤ 1000000000) (hx : xs[q]? = some x) (hxx : 1 < x.toNat) :
    Calls Try.prog 46 #[.agg #[.slice A n c, .int .i64 q, .int .i64 0]] w fun e' w' => e' = .returned (.tuple #[.int .i64 0, .agg #[.slice A n c, .int .i64 q, .int .i64 11]]) ∧ Below w.heap.size w w' := by
  have hxi : (1 : Int) < (x.toNat : Int) := by omega
  have hl := hr.len
  have hq : q + 1 ≤ n := by have := (List.getElem?_eq_some_iff.1 hx).1; omega
  have hy1 : (xs.drop q).take 1 = [x] := by
    obtain ⟨h2, rfl⟩ := List.getElem?_eq_some_iff.1 hx
    rw [List.drop_eq_getElem_cons h2]; rfl
  have hnext := fun B1 w1 h1 h2 => next_ok A n c B1 q 1 1 xs w1 h1 h2 hnc hn (by omega) hq
  rw [hy1, show ((q + 1 : Nat) : Int) = (q : Int) + 1 by simp] at hnext
  have HN := Lib.hid hnext
  have hrb : ∀ w', Below w.heap.size w w' → Rd w' B A n xs := fun _ h => hr.below' h hB
  have HRB := Lib.hid hrb
  have hx255 := x.toNat_lt
  clear hnext hrb hy1 hx hr
  go_enter Try.func46, Try.ntmps46
  go_wp2_with fail
  refine (HN.out B _ (HRB.out _ (by repeat' (first | with_reducible exact Below.refl _ _ | with_reducible assumption | with_reducible refine Below.drew ?_ | with_reducible refine Below.drewN ?_ _ | with_reducible refine Below.setCell ?_ (by simp <;> omega) _ | with_reducible refine Below.alloc ?_ (by simp <;> omega) _))) (by simp; omega)).mono ?_
  rintro e' w2 ⟨A1, c1, rfl, hc1, hr0, hb2⟩
  have hr1 := hr0.below' hb2 (by simp; omega)
  clear hr0
  have x1 : Bxr w2 w.heap.size A n c q 0 := Bxr.below ⟨⟨by simp, by simp, by simp⟩, by simp, by simp, by simp⟩ hb2 (by simp <;> omega)
  have x2 : Bxr w2 (w.heap.size + 1) none 0 0 0 0 := Bxr.below ⟨⟨by simp, by simp, by simp⟩, by simp, by simp, by simp⟩ hb2 (by simp <;> omega)
  have hbz : Below w.heap.size w w2 := (((Below.refl _ _).al (Nat.le_refl _) _).al (Nat.le_refl _) _).thn (Nat.le_refl _) hb2
  have hsz := hb2.size
  simp only [World.size_alloc] at hsz
  have hs0_w2 : w.heap.size < w2.heap.size := by omega
  have hs1_w2 : w.heap.size + 1 < w2.heap.size := by omega
  have hs2_w2 : w.heap.size < w2.heap.size + 1 := by omega
  have hs3_w2 : w.heap.size + 1 < w2.heap.size + 1 := by omega
  have hs4_w2 : ¬ w.heap.size + 1 = w2.heap.size := by omega
  have hs5_w2 : ¬ w.heap.size + 1 = w2.heap.size + 1 := by omega
  obtain ⟨⟨p0, p1, p2⟩, f0, f1, f2⟩ := x1
  obtain ⟨⟨q0, q1, q2⟩, g0, g1, g2⟩ := x2
  clear hb2
  obtain ⟨g, o, y, hA, hgB, hy, hc⟩ := hr1.at_ (k := 0) (by omega)
  subst hA
  obtain rfl : y = x := by simpa using hy.symm
  rw [Nat.add_zero] at hc
  have hg : g < w2.heap.size := by omega
  clear hr1 hy
  go_wp2_with fail
  refine (fail_any A n c q 0 11 _).mono ?_
  rintro e' w3 ⟨rfl, rfl⟩
  go_wp2_with fail
  refine bodyPost_ret (ret_tc (A := A) (n := n) (c := c) (a := q) (e := 11) rfl rfl ⟨by go_simp, by go_simp, by go_simp⟩) rfl ⟨by simp [rdv], ?_⟩
  (repeat' (first | with_reducible exact Below.refl _ _ | with_reducible assumption | with_reducible refine Below.drew ?_ | with_reducible refine Below.drewN ?_ _ | with_reducible refine Below.setCell ?_ (by simp <;> omega) _ | with_reducible refine Below.alloc ?_ (by simp <;> omega) _))
set_option maxRecDepth 100000 in
set_option maxHeartbeats 2000000 in
theorem bool_ok (A : Option Addr) (n c B q : Nat) (xs : List UInt8) (x : UInt8) (w : World) (hr : Rd w B A n xs) (hB : B ≤ w.heap.size) (hnc : n ≤ c) (hn : n ≤ 1000000000) (hx : xs[q]? = some x) (hxx : ¬ 1 < x.toNat) :
    Calls Try.prog 46 #[.agg #[.slice A n c, .int .i64 q, .int .i64 0]] w fun e' w' => e' = .returned (.tuple #[.int .i64 x.toNat, .agg #[.slice A n c, .int .i64 ((q : Int) + 1), .int .i64 0]]) ∧ Below w.heap.size w w' := by
  have hxi : ¬ (1 : Int) < (x.toNat : Int) := by omega
  have hl := hr.len
  have hq : q + 1 ≤ n := by have := (List.getElem?_eq_some_iff.1 hx).1; omega
  have hy1 : (xs.drop q).take 1 = [x] := by
    obtain ⟨h2, rfl⟩ := List.getElem?_eq_some_iff.1 hx
    rw [List.drop_eq_getElem_cons h2]; rfl
  have hnext := fun B1 w1 h1 h2 => next_ok A n c B1 q 1 1 xs w1 h1 h2 hnc hn (by omega) hq
  rw [hy1, show ((q + 1 : Nat) : Int) = (q : Int) + 1 by simp] at hnext
  have HN := Lib.hid hnext
  have hrb : ∀ w', Below w.heap.size w w' → Rd w' B A n xs := fun _ h => hr.below' h hB
  have HRB := Lib.hid hrb
  have hx255 := x.toNat_lt
  clear hnext hrb hy1 hx hr
  go_enter Try.func46, Try.ntmps46
  go_wp2_with fail
  refine (HN.out B _ (HRB.out _ (by repeat' (first | with_reducible exact Below.refl _ _ | with_reducible assumption | with_reducible refine Below.drew ?_ | with_reducible refine Below.drewN ?_ _ | with_reducible refine Below.setCell ?_ (by simp <;> omega) _ | with_reducible refine Below.alloc ?_ (by simp <;> omega) _))) (by simp; omega)).mono ?_
  rintro e' w2 ⟨A1, c1, rfl, hc1, hr0, hb2⟩
  have hr1 := hr0.below' hb2 (by simp; omega)
  clear hr0
  have x1 : Bxr w2 w.heap.size A n c q 0 := Bxr.below ⟨⟨by simp, by simp, by simp⟩, by simp, by simp, by simp⟩ hb2 (by simp <;> omega)
  have x2 : Bxr w2 (w.heap.size + 1) none 0 0 0 0 := Bxr.below ⟨⟨by simp, by simp, by simp⟩, by simp, by simp, by simp⟩ hb2 (by simp <;> omega)
  have hbz : Below w.heap.size w w2 := (((Below.refl _ _).al (Nat.le_refl _) _).al (Nat.le_refl _) _).thn (Nat.le_refl _) hb2
  have hsz := hb2.size
  simp only [World.size_alloc] at hsz
  have hs0_w2 : w.heap.size < w2.heap.size := by omega
  have hs1_w2 : w.heap.size + 1 < w2.heap.size := by omega
  have hs2_w2 : w.heap.size < w2.heap.size + 1 := by omega
  have hs3_w2 : w.heap.size + 1 < w2.heap.size + 1 := by omega
  have hs4_w2 : ¬ w.heap.size + 1 = w2.heap.size := by omega
  have hs5_w2 : ¬ w.heap.size + 1 = w2.heap.size + 1 := by omega
  obtain ⟨⟨p0, p1, p2⟩, f0, f1, f2⟩ := x1
  obtain ⟨⟨q0, q1, q2⟩, g0, g1, g2⟩ := x2
  clear hb2
  obtain ⟨g, o, y, hA, hgB, hy, hc⟩ := hr1.at_ (k := 0) (by omega)
  subst hA
  obtain rfl : y = x := by simpa using hy.symm
  rw [Nat.add_zero] at hc
  have hg : g < w2.heap.size := by omega
  clear hr1 hy
  go_wp2_with fail
  go_region
  all_goals go_wp2_with fail
  all_goals refine bodyPost_ret (ret_tc (A := A) (n := n) (c := c) (a := ((q : Int) + 1)) (e := 0) rfl rfl ⟨by go_simp, by go_simp, by go_simp⟩) rfl ⟨by simp [rdv], ?_⟩
  all_goals (repeat' (first | with_reducible exact Below.refl _ _ | with_reducible assumption | with_reducible refine Below.drew ?_ | with_reducible refine Below.drewN ?_ _ | with_reducible refine Below.setCell ?_ (by simp <;> omega) _ | with_reducible refine Below.alloc ?_ (by simp <;> omega) _))
end Go.Proofs.Ytodgnlhakafhoaa.Wr
