/- The layer wire: the program's reader, bytes behind their size. -/
import Derived.Test.YtodgnlhakafhoaaWirC
namespace Go.Proofs.Ytodgnlhakafhoaa.Wr
open Go.ChangeShapes Go.WideShapes Go.ChangeAt Go.RowKit
open Num Mem

theorem tk_at {most last n : Nat} (hm : 0 < most) (hl : last < 128) {xs : List UInt8} (hn : xs.length = n) {a : Int} (h1 : 0 ≤ a) (h2 : a ≤ n) (h : Vr.tkE most last xs a = 0) : ∃ q : Nat, Vr.tkTo most last xs a = q ∧ q ≤ n ∧ a < q := by
  obtain ⟨p, rfl⟩ := Int.eq_ofNat_of_zero_le h1
  rw [Vr.tkE_in (by omega)] at h
  obtain ⟨_, h3, h4⟩ := Vr.tk_put hm hl (L := xs.drop p) (by exact_mod_cast h)
  rw [List.length_drop, hn] at h4
  refine ⟨p + (Vr.tk most last 0 0 (xs.drop p)).2.1, ?_, by omega, by omega⟩
  rw [Vr.tkTo_in (by omega)]; simp
/-- why bytes are refused -/
def byE (n : Nat) (xs : List UInt8) (a e : Int) : Int :=
  if lnE 10 1 n xs a e ≠ 0 then lnE 10 1 n xs a e else if Vr.tkN 10 1 xs a < 0 then 11 else if 20000 < Vr.tkN 10 1 xs a then 15 else if (n : Int) - Vr.tkTo 10 1 xs a < Vr.tkN 10 1 xs a then 10 else 0
def byL (xs : List UInt8) (a : Int) : List UInt8 := (xs.drop (Vr.tkTo 10 1 xs a).toNat).take (Vr.tkN 10 1 xs a).toNat
theorem byE_zero {n : Nat} {xs : List UInt8} {a e : Int} (h : byE n xs a e = 0) : lnE 10 1 n xs a e = 0 ∧ 0 ≤ Vr.tkN 10 1 xs a ∧ Vr.tkN 10 1 xs a ≤ 20000 ∧ Vr.tkN 10 1 xs a ≤ (n : Int) - Vr.tkTo 10 1 xs a := by
  unfold byE at h
  by_cases h1 : lnE 10 1 n xs a e = 0
  · rw [if_neg (by simp [h1])] at h
    by_cases h2 : Vr.tkN 10 1 xs a < 0
    · rw [if_pos h2] at h; cases h
    · rw [if_neg h2] at h
      by_cases h3 : 20000 < Vr.tkN 10 1 xs a
      · rw [if_pos h3] at h; cases h
      · rw [if_neg h3] at h
        by_cases h4 : (n : Int) - Vr.tkTo 10 1 xs a < Vr.tkN 10 1 xs a
        · rw [if_pos h4] at h; cases h
        · exact ⟨h1, by omega, by omega, by omega⟩
  · rw [if_pos h1] at h; exact absurd h h1
set_option maxRecDepth 100000 in
set_option maxHeartbeats 2000000 in
theorem bytes_n1 (A : Option Addr) (n c B : Nat) (a e : Int) (xs : List UInt8) (w : World) (hr : Rd w B A n xs) (hB : B ≤ w.heap.size) (hnc : n ≤ c) (hn : n ≤ 1000000000) (h1 : lnE 10 1 n xs a e ≠ 0) :
    Calls Try.prog 50 #[.agg #[.slice A n c, .int .i64 a, .int .i64 e]] w fun e' w' => e' = .returned (.tuple #[.slice none 0 0, .agg #[.slice A n c, .int .i64 a, .int .i64 (lnE 10 1 n xs a e)]]) ∧ Below w.heap.size w w' := by
  have hlong := fun w1 (hw : Below w.heap.size w w1) => long_no A n c B a e xs w1 (hr.below' hw hB) (Nat.le_trans hB hw.size) hnc hn h1
  obtain ⟨R, hR⟩ : ∃ R, R = lnE 10 1 n xs a e := ⟨_, rfl⟩
  rw [← hR] at h1 hlong ⊢
  have h3 : (R != 0) = true := by simp [h1]
  have HLG := Lib.hid hlong
  clear hlong hR
  go_enter Try.func50, Try.ntmps50
  go_wp2_with fail
  refine (HLG.out _ (by repeat' (first | with_reducible exact Below.refl _ _ | with_reducible assumption | with_reducible refine Below.drew ?_ | with_reducible refine Below.drewN ?_ _ | with_reducible refine Below.setCell ?_ (by simp <;> omega) _ | with_reducible refine Below.alloc ?_ (by simp <;> omega) _))).mono ?_
  rintro e' w2 ⟨rfl, hb2⟩
  have x1 : Bxr w2 w.heap.size A n c a e := Bxr.below ⟨⟨by simp, by simp, by simp⟩, by simp, by simp, by simp⟩ hb2 (by simp <;> omega)
  have x2 : Bxr w2 (w.heap.size + 1) none 0 0 0 0 := Bxr.below ⟨⟨by simp, by simp, by simp⟩, by simp, by simp, by simp⟩ hb2 (by simp <;> omega)
  have hbz : Below w.heap.size w w2 := (((Below.refl _ _).al (Nat.le_refl _) _).al (Nat.le_refl _) _).thn (Nat.le_refl _) hb2
  have hsz := hb2.size
  simp only [World.size_alloc] at hsz
  have hs0_w2 : w.heap.size < w2.heap.size := by omega
  have hs1_w2 : w.heap.size + 1 < w2.heap.size := by omega
  have hs2_w2 : w.heap.size < w2.heap.size + 1 := by omega
  have hs3_w2 : w.heap.size + 1 < w2.heap.size + 1 := by omega
  have hs4_w2 : ¬ w.heap.size + 1 = w2.heap.size := by omega
  have hs5_w2 : ¬ w.heap.size + 1 = w2.heap.size + 1 := by omega
  obtain ⟨⟨p0, p1, p2⟩, f0, f1, f2⟩ := x1
  obtain ⟨⟨q0, q1, q2⟩, g0, g1, g2⟩ := x2
  clear hb2
  go_wp2_with fail
  go_region
  all_goals go_wp2_with fail
  all_goals refine bodyPost_ret (ret_tc (A := A) (n := n) (c := c) (a := a) (e := R) rfl rfl ⟨by go_simp, by go_simp, by go_simp⟩) rfl ⟨by simp [rdv], ?_⟩
  all_goals (repeat' (first | with_reducible exact Below.refl _ _ | with_reducible assumption | with_reducible refine Below.drew ?_ | with_reducible refine Below.drewN ?_ _ | with_reducible refine Below.setCell ?_ (by simp <;> omega) _ | with_reducible refine Below.alloc ?_ (by simp <;> omega) _))
set_option maxRecDepth 100000 in
set_option maxHeartbeats 2000000 in
theorem bytes_n2 (A : Option Addr) (n c B : Nat) (a e : Int) (xs : List UInt8) (w : World) (hr : Rd w B A n xs) (hB : B ≤ w.heap.size) (hnc : n ≤ c) (hn : n ≤ 1000000000) (hln0 : lnE 10 1 n xs a e = 0) (hRR : (0 : Int) ≤ Vr.tkTo 10 1 xs a ∨ True) (hN : Vr.tkN 10 1 xs a < 0) :
    Calls Try.prog 50 #[.agg #[.slice A n c, .int .i64 a, .int .i64 e]] w fun e' w' => e' = .returned (.tuple #[.slice none 0 0, .agg #[.slice A n c, .int .i64 a, .int .i64 11]]) ∧ Below w.heap.size w w' := by
  clear hRR
  have hRR : (Vr.tkN 10 1 xs a < 0) ∧ ((0 : Int) ≤ Vr.tkTo 10 1 xs a ∨ True) := ⟨hN, .inr trivial⟩
  clear hN
  have hl := hr.len
  obtain ⟨he0, hse, htk⟩ := lnE_zero hln0
  obtain ⟨_, ha1, ha2⟩ := stE_zero hse
  obtain ⟨q, hq, hqn, _⟩ := tk_at (n := n) (by omega) (by omega) hl ha1 ha2 htk
  subst he0
  have hlong := fun w1 (hw : Below w.heap.size w w1) => long_ok A n c B a 0 xs w1 (hr.below' hw hB) (Nat.le_trans hB hw.size) hnc hn hln0
  rw [hq] at hlong hRR
  generalize Vr.tkN 10 1 xs a = N at hlong hRR
  have HLG := Lib.hid hlong
  clear hlong hln0 hse htk hq
  obtain ⟨hN, _⟩ := hRR
  go_enter Try.func50, Try.ntmps50
  go_wp2_with fail
  refine (HLG.out _ (by repeat' (first | with_reducible exact Below.refl _ _ | with_reducible assumption | with_reducible refine Below.drew ?_ | with_reducible refine Below.drewN ?_ _ | with_reducible refine Below.setCell ?_ (by simp <;> omega) _ | with_reducible refine Below.alloc ?_ (by simp <;> omega) _))).mono ?_
  rintro e' w2 ⟨rfl, hb2⟩
  have x1 : Bxr w2 w.heap.size A n c a 0 := Bxr.below ⟨⟨by simp, by simp, by simp⟩, by simp, by simp, by simp⟩ hb2 (by simp <;> omega)
  have x2 : Bxr w2 (w.heap.size + 1) none 0 0 0 0 := Bxr.below ⟨⟨by simp, by simp, by simp⟩, by simp, by simp, by simp⟩ hb2 (by simp <;> omega)
  have hbz : Below w.heap.size w w2 := (((Below.refl _ _).al (Nat.le_refl _) _).al (Nat.le_refl _) _).thn (Nat.le_refl _) hb2
  have hsz := hb2.size
  simp only [World.size_alloc] at hsz
  have hs0_w2 : w.heap.size < w2.heap.size := by omega
  have hs1_w2 : w.heap.size + 1 < w2.heap.size := by omega
  have hs2_w2 : w.heap.size < w2.heap.size + 1 := by omega
  have hs3_w2 : w.heap.size + 1 < w2.heap.size + 1 := by omega
  have hs4_w2 : ¬ w.heap.size + 1 = w2.heap.size := by omega
  have hs5_w2 : ¬ w.heap.size + 1 = w2.heap.size + 1 := by omega
  obtain ⟨⟨p0, p1, p2⟩, f0, f1, f2⟩ := x1
  obtain ⟨⟨q0, q1, q2⟩, g0, g1, g2⟩ := x2
  clear hb2
  go_wp2_with fail
  refine (fail_any A n c a 0 11 _).mono ?_
  rintro e' w3 ⟨rfl, rfl⟩
  go_wp2_with fail
  refine bodyPost_ret (ret_tc (A := A) (n := n) (c := c) (a := a) (e := 11) rfl rfl ⟨by go_simp, by go_simp, by go_simp⟩) rfl ⟨by simp [rdv], ?_⟩
  (repeat' (first | with_reducible exact Below.refl _ _ | with_reducible assumption | with_reducible refine Below.drew ?_ | with_reducible refine Below.drewN ?_ _ | with_reducible refine Below.setCell ?_ (by simp <;> omega) _ | with_reducible refine Below.alloc ?_ (by simp <;> omega) _))
set_option maxRecDepth 100000 in
set_option maxHeartbeats 2000000 in
theorem bytes_n3 (A : Option Addr) (n c B : Nat) (a e : Int) (xs : List UInt8) (w : World) (hr : Rd w B A n xs) (hB : B ≤ w.heap.size) (hnc : n ≤ c) (hn : n ≤ 1000000000) (hln0 : lnE 10 1 n xs a e = 0) (hRR : (0 : Int) ≤ Vr.tkTo 10 1 xs a ∨ True) (hN : ¬ Vr.tkN 10 1 xs a < 0 ∧ 20000 < Vr.tkN 10 1 xs a) :
    Calls Try.prog 50 #[.agg #[.slice A n c, .int .i64 a, .int .i64 e]] w fun e' w' => e' = .returned (.tuple #[.slice none 0 0, .agg #[.slice A n c, .int .i64 a, .int .i64 15]]) ∧ Below w.heap.size w w' := by
  clear hRR
  have hRR : (¬ Vr.tkN 10 1 xs a < 0 ∧ 20000 < Vr.tkN 10 1 xs a) ∧ ((0 : Int) ≤ Vr.tkTo 10 1 xs a ∨ True) := ⟨hN, .inr trivial⟩
  clear hN
  have hl := hr.len
  obtain ⟨he0, hse, htk⟩ := lnE_zero hln0
  obtain ⟨_, ha1, ha2⟩ := stE_zero hse
  obtain ⟨q, hq, hqn, _⟩ := tk_at (n := n) (by omega) (by omega) hl ha1 ha2 htk
  subst he0
  have hlong := fun w1 (hw : Below w.heap.size w w1) => long_ok A n c B a 0 xs w1 (hr.below' hw hB) (Nat.le_trans hB hw.size) hnc hn hln0
  rw [hq] at hlong hRR
  generalize Vr.tkN 10 1 xs a = N at hlong hRR
  have HLG := Lib.hid hlong
  clear hlong hln0 hse htk hq
  obtain ⟨hN, _⟩ := hRR
  obtain ⟨hN, hN2⟩ := hN
  go_enter Try.func50, Try.ntmps50
  go_wp2_with fail
  refine (HLG.out _ (by repeat' (first | with_reducible exact Below.refl _ _ | with_reducible assumption | with_reducible refine Below.drew ?_ | with_reducible refine Below.drewN ?_ _ | with_reducible refine Below.setCell ?_ (by simp <;> omega) _ | with_reducible refine Below.alloc ?_ (by simp <;> omega) _))).mono ?_
  rintro e' w2 ⟨rfl, hb2⟩
  have x1 : Bxr w2 w.heap.size A n c a 0 := Bxr.below ⟨⟨by simp, by simp, by simp⟩, by simp, by simp, by simp⟩ hb2 (by simp <;> omega)
  have x2 : Bxr w2 (w.heap.size + 1) none 0 0 0 0 := Bxr.below ⟨⟨by simp, by simp, by simp⟩, by simp, by simp, by simp⟩ hb2 (by simp <;> omega)
  have hbz : Below w.heap.size w w2 := (((Below.refl _ _).al (Nat.le_refl _) _).al (Nat.le_refl _) _).thn (Nat.le_refl _) hb2
  have hsz := hb2.size
  simp only [World.size_alloc] at hsz
  have hs0_w2 : w.heap.size < w2.heap.size := by omega
  have hs1_w2 : w.heap.size + 1 < w2.heap.size := by omega
  have hs2_w2 : w.heap.size < w2.heap.size + 1 := by omega
  have hs3_w2 : w.heap.size + 1 < w2.heap.size + 1 := by omega
  have hs4_w2 : ¬ w.heap.size + 1 = w2.heap.size := by omega
  have hs5_w2 : ¬ w.heap.size + 1 = w2.heap.size + 1 := by omega
  obtain ⟨⟨p0, p1, p2⟩, f0, f1, f2⟩ := x1
  obtain ⟨⟨q0, q1, q2⟩, g0, g1, g2⟩ := x2
  clear hb2
  go_wp2_with fail
  refine (fail_any A n c a 0 15 _).mono ?_
  rintro e' w3 ⟨rfl, rfl⟩
  go_wp2_with fail
  refine bodyPost_ret (ret_tc (A := A) (n := n) (c := c) (a := a) (e := 15) rfl rfl ⟨by go_simp, by go_simp, by go_simp⟩) rfl ⟨by simp [rdv], ?_⟩
  (repeat' (first | with_reducible exact Below.refl _ _ | with_reducible assumption | with_reducible refine Below.drew ?_ | with_reducible refine Below.drewN ?_ _ | with_reducible refine Below.setCell ?_ (by simp <;> omega) _ | with_reducible refine Below.alloc ?_ (by simp <;> omega) _))
end Go.Proofs.Ytodgnlhakafhoaa.Wr
