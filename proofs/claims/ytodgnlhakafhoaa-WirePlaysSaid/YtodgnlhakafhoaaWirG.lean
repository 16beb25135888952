/- The layer wire: the program's reader, texts; the chapter's example. -/
import Derived.Test.YtodgnlhakafhoaaWirE
import Derived.Test.YtodgnlhakafhoaaWirF
namespace Go.Proofs.Ytodgnlhakafhoaa.Wr
open Go.ChangeShapes Go.WideShapes Go.ChangeAt Go.RowKit
open Num Mem

theorem byE_cases {n : Nat} {xs : List UInt8} {a e : Int} : (lnE 10 1 n xs a e ≠ 0 ∧ byE n xs a e = lnE 10 1 n xs a e) ∨ (lnE 10 1 n xs a e = 0 ∧ Vr.tkN 10 1 xs a < 0 ∧ byE n xs a e = 11) ∨ (lnE 10 1 n xs a e = 0 ∧ (¬ Vr.tkN 10 1 xs a < 0 ∧ 20000 < Vr.tkN 10 1 xs a) ∧ byE n xs a e = 15) ∨
    (lnE 10 1 n xs a e = 0 ∧ ¬ Vr.tkN 10 1 xs a < 0 ∧ ¬ 20000 < Vr.tkN 10 1 xs a ∧ (n : Int) - Vr.tkTo 10 1 xs a < Vr.tkN 10 1 xs a ∧ byE n xs a e = 10) ∨ byE n xs a e = 0 := by
  by_cases h1 : lnE 10 1 n xs a e = 0
  · by_cases h2 : Vr.tkN 10 1 xs a < 0
    · exact .inr (.inl ⟨h1, h2, by unfold byE; rw [if_neg (by simp [h1]), if_pos h2]⟩)
    · by_cases h3 : 20000 < Vr.tkN 10 1 xs a
      · exact .inr (.inr (.inl ⟨h1, ⟨h2, h3⟩, by unfold byE; rw [if_neg (by simp [h1]), if_neg h2, if_pos h3]⟩))
      · by_cases h4 : (n : Int) - Vr.tkTo 10 1 xs a < Vr.tkN 10 1 xs a
        · exact .inr (.inr (.inr (.inl ⟨h1, h2, h3, h4, by unfold byE; rw [if_neg (by simp [h1]), if_neg h2, if_neg h3, if_pos h4]⟩)))
        · exact .inr (.inr (.inr (.inr (by unfold byE; rw [if_neg (by simp [h1]), if_neg h2, if_neg h3, if_neg h4]))))
  · exact .inl ⟨h1, by unfold byE; rw [if_pos h1]⟩
theorem bytes_no (A : Option Addr) (n c B : Nat) (a e : Int) (xs : List UInt8) (w : World) (hr : Rd w B A n xs) (hB : B ≤ w.heap.size) (hnc : n ≤ c) (hn : n ≤ 1000000000) (h1 : byE n xs a e ≠ 0) :
    Calls Try.prog 50 #[.agg #[.slice A n c, .int .i64 a, .int .i64 e]] w fun e' w' => e' = .returned (.tuple #[.slice none 0 0, .agg #[.slice A n c, .int .i64 a, .int .i64 (byE n xs a e)]]) ∧ Below w.heap.size w w' := by
  rcases byE_cases (n := n) (xs := xs) (a := a) (e := e) with ⟨g1, g2⟩ | ⟨g1, g2, g3⟩ | ⟨g1, g2, g3⟩ | ⟨g1, g2, g3, g4, g5⟩ | g
  · rw [g2]; exact bytes_n1 A n c B a e xs w hr hB hnc hn g1
  · rw [g3]; exact bytes_n2 A n c B a e xs w hr hB hnc hn g1 (.inr trivial) g2
  · rw [g3]; exact bytes_n3 A n c B a e xs w hr hB hnc hn g1 (.inr trivial) g2
  · rw [g5]; exact bytes_n4 A n c B a e xs w hr hB hnc hn g1 g2 g3 g4
  · exact absurd g h1

/-- why a text is refused -/
def txE (n : Nat) (xs : List UInt8) (a e : Int) : Int := if byE n xs a e ≠ 0 then byE n xs a e else if (Ut.ucount (byL xs a)).isSome = true then 0 else 11
set_option maxRecDepth 100000 in
set_option maxHeartbeats 2000000 in
theorem text_n1 (A : Option Addr) (n c B : Nat) (a e : Int) (xs : List UInt8) (w : World) (hr : Rd w B A n xs) (hB : B ≤ w.heap.size) (hnc : n ≤ c) (hn : n ≤ 1000000000) (h1 : byE n xs a e ≠ 0) :
    Calls Try.prog 51 #[.agg #[.slice A n c, .int .i64 a, .int .i64 e]] w fun e' w' => e' = .returned (.tuple #[.slice none 0 0, .agg #[.slice A n c, .int .i64 a, .int .i64 (byE n xs a e)]]) ∧ Below w.heap.size w w' := by
  have hby := fun w1 (hw : Below w.heap.size w w1) => bytes_no A n c B a e xs w1 (hr.below' hw hB) (Nat.le_trans hB hw.size) hnc hn h1
  obtain ⟨R, hR⟩ : ∃ R, R = byE n xs a e := ⟨_, rfl⟩
  rw [← hR] at h1 hby ⊢
  have h3 : (R == 0) = false := by simp [h1]
  have HBY := Lib.hid hby
  clear hby hR
  go_enter Try.func51, Try.ntmps51
  go_wp2_with fail
  refine (HBY.out _ (by repeat' (first | with_reducible exact Below.refl _ _ | with_reducible assumption | with_reducible refine Below.drew ?_ | with_reducible refine Below.drewN ?_ _ | with_reducible refine Below.setCell ?_ (by simp <;> omega) _ | with_reducible refine Below.alloc ?_ (by simp <;> omega) _))).mono ?_
  rintro e' w2 ⟨rfl, hb2⟩
  have x1 : Bxr w2 w.heap.size A n c a e := Bxr.below ⟨⟨by simp, by simp, by simp⟩, by simp, by simp, by simp⟩ hb2 (by simp <;> omega)
  have x2 : Bxr w2 (w.heap.size + 1) none 0 0 0 0 := Bxr.below ⟨⟨by simp, by simp, by simp⟩, by simp, by simp, by simp⟩ hb2 (by simp <;> omega)
  have hbz : Below w.heap.size w w2 := (((Below.refl _ _).al (Nat.le_refl _) _).al (Nat.le_refl _) _).thn (Nat.le_refl _) hb2
  have hsz := hb2.size
  simp only [World.size_alloc] at hsz
  have hs0_w2 : w.heap.size < w2.heap.size := by omega
  have hs1_w2 : w.heap.size + 1 < w2.heap.size := by omega
  have hs2_w2 : w.heap.size < w2.heap.size + 1 := by omega
  have hs3_w2 : w.heap.size + 1 < w2.heap.size + 1 := by omega
  have hs4_w2 : ¬ w.heap.size + 1 = w2.heap.size := by omega
  have hs5_w2 : ¬ w.heap.size + 1 = w2.heap.size + 1 := by omega
  obtain ⟨⟨p0, p1, p2⟩, f0, f1, f2⟩ := x1
  obtain ⟨⟨q0, q1, q2⟩, g0, g1, g2⟩ := x2
  clear hb2
  go_wp2_with fail
  go_region
  all_goals go_wp2_with fail
  all_goals refine bodyPost_ret (ret_tc (A := A) (n := n) (c := c) (a := a) (e := R) rfl rfl ⟨by go_simp, by go_simp, by go_simp⟩) rfl ⟨by simp [rdv], ?_⟩
  all_goals (repeat' (first | with_reducible exact Below.refl _ _ | with_reducible assumption | with_reducible refine Below.drew ?_ | with_reducible refine Below.drewN ?_ _ | with_reducible refine Below.setCell ?_ (by simp <;> omega) _ | with_reducible refine Below.alloc ?_ (by simp <;> omega) _))
set_option maxRecDepth 100000 in
set_option maxHeartbeats 2000000 in
theorem text_n2 (A : Option Addr) (n c B : Nat) (a e : Int) (xs : List UInt8) (w : World) (hr : Rd w B A n xs) (hB : B ≤ w.heap.size) (hnc : n ≤ c) (hn : n ≤ 1000000000) (h1 : byE n xs a e = 0) (hm : (byL xs a).length ≤ 1000000000) (hu : (Ut.ucount (byL xs a)).isSome = false) :
    Calls Try.prog 51 #[.agg #[.slice A n c, .int .i64 a, .int .i64 e]] w fun e' w' => e' = .returned (.tuple #[.slice none 0 0, .agg #[.slice A n c, .int .i64 a, .int .i64 11]]) ∧ Below w.heap.size w w' := by
  generalize hys : byL xs a = ys0 at hm
  have hm2 : (byL xs a).length ≤ 1000000000 := by rw [hys]; exact hm
  clear hys hm
  have hby := fun w1 (hw : Below w.heap.size w w1) => bytes_ok A n c B a e xs w1 (hr.below' hw hB) (Nat.le_trans hB hw.size) hnc hn h1
  generalize byL xs a = ys at hby hu hm2
  generalize Vr.tkTo 10 1 xs a + Vr.tkN 10 1 xs a = T at hby
  have HBY := Lib.hid hby
  have HU := Lib.hid hu
  clear hby hu h1
  go_enter Try.func51, Try.ntmps51
  go_wp2_with fail
  refine (HBY.out _ (by repeat' (first | with_reducible exact Below.refl _ _ | with_reducible assumption | with_reducible refine Below.drew ?_ | with_reducible refine Below.drewN ?_ _ | with_reducible refine Below.setCell ?_ (by simp <;> omega) _ | with_reducible refine Below.alloc ?_ (by simp <;> omega) _))).mono ?_
  rintro e' w2 ⟨A2, m, rfl, ho2, hb2⟩
  have x1 : Bxr w2 w.heap.size A n c a e := Bxr.below ⟨⟨by simp, by simp, by simp⟩, by simp, by simp, by simp⟩ hb2 (by simp <;> omega)
  have x2 : Bxr w2 (w.heap.size + 1) none 0 0 0 0 := Bxr.below ⟨⟨by simp, by simp, by simp⟩, by simp, by simp, by simp⟩ hb2 (by simp <;> omega)
  have hbz : Below w.heap.size w w2 := (((Below.refl _ _).al (Nat.le_refl _) _).al (Nat.le_refl _) _).thn (Nat.le_refl _) hb2
  have hsz := hb2.size
  simp only [World.size_alloc] at hsz
  have hs0_w2 : w.heap.size < w2.heap.size := by omega
  have hs1_w2 : w.heap.size + 1 < w2.heap.size := by omega
  have hs2_w2 : w.heap.size < w2.heap.size + 1 := by omega
  have hs3_w2 : w.heap.size + 1 < w2.heap.size + 1 := by omega
  have hs4_w2 : ¬ w.heap.size + 1 = w2.heap.size := by omega
  have hs5_w2 : ¬ w.heap.size + 1 = w2.heap.size + 1 := by omega
  obtain ⟨⟨p0, p1, p2⟩, f0, f1, f2⟩ := x1
  obtain ⟨⟨q0, q1, q2⟩, g0, g1, g2⟩ := x2
  clear hb2
  have hml := ho2.len
  go_wp2_with fail
  refine (Ut.right_any A2 m m w2.heap.size ys _ (ho2.rd.alloc (Nat.le_refl _) _) (by omega)).mono ?_
  rintro e' w' ⟨rfl, rfl⟩
  rw [HU.out]
  go_wp2_with fail
  refine (fail_any A n c a e 11 _).mono ?_
  rintro e' w3 ⟨rfl, rfl⟩
  clear ho2
  go_wp2_with fail
  refine bodyPost_ret (ret_tc (A := A) (n := n) (c := c) (a := a) (e := 11) rfl rfl ⟨by go_simp, by go_simp, by go_simp⟩) rfl ⟨by simp [rdv], ?_⟩
  (repeat' (first | with_reducible exact Below.refl _ _ | with_reducible assumption | with_reducible refine Below.drew ?_ | with_reducible refine Below.drewN ?_ _ | with_reducible refine Below.setCell ?_ (by simp <;> omega) _ | with_reducible refine Below.alloc ?_ (by simp <;> omega) _))
set_option maxRecDepth 100000 in
set_option maxHeartbeats 2000000 in
theorem text_ok (A : Option Addr) (n c B : Nat) (a e : Int) (xs : List UInt8) (w : World) (hr : Rd w B A n xs) (hB : B ≤ w.heap.size) (hnc : n ≤ c) (hn : n ≤ 1000000000) (h1 : byE n xs a e = 0) (hm : (byL xs a).length ≤ 1000000000) (hu : (Ut.ucount (byL xs a)).isSome = true) :
    Calls Try.prog 51 #[.agg #[.slice A n c, .int .i64 a, .int .i64 e]] w fun e' w' => ∃ A' m, e' = .returned (.tuple #[.slice A' m m, .agg #[.slice A n c, .int .i64 (Vr.tkTo 10 1 xs a + Vr.tkN 10 1 xs a), .int .i64 0]]) ∧ Own w' w.heap.size A' m m (byL xs a) ∧ Below w.heap.size w w' := by
  generalize hys : byL xs a = ys0 at hm
  have hm2 : (byL xs a).length ≤ 1000000000 := by rw [hys]; exact hm
  rw [← hys]
  clear hys hm
  have hby := fun w1 (hw : Below w.heap.size w w1) => bytes_ok A n c B a e xs w1 (hr.below' hw hB) (Nat.le_trans hB hw.size) hnc hn h1
  generalize byL xs a = ys at hby hu hm2 ⊢
  generalize Vr.tkTo 10 1 xs a + Vr.tkN 10 1 xs a = T at hby ⊢
  have HBY := Lib.hid hby
  have HU := Lib.hid hu
  clear hby hu h1
  go_enter Try.func51, Try.ntmps51
  go_wp2_with fail
  refine (HBY.out _ (by repeat' (first | with_reducible exact Below.refl _ _ | with_reducible assumption | with_reducible refine Below.drew ?_ | with_reducible refine Below.drewN ?_ _ | with_reducible refine Below.setCell ?_ (by simp <;> omega) _ | with_reducible refine Below.alloc ?_ (by simp <;> omega) _))).mono ?_
  rintro e' w2 ⟨A2, m, rfl, ho2, hb2⟩
  have x1 : Bxr w2 w.heap.size A n c a e := Bxr.below ⟨⟨by simp, by simp, by simp⟩, by simp, by simp, by simp⟩ hb2 (by simp <;> omega)
  have x2 : Bxr w2 (w.heap.size + 1) none 0 0 0 0 := Bxr.below ⟨⟨by simp, by simp, by simp⟩, by simp, by simp, by simp⟩ hb2 (by simp <;> omega)
  have hbz : Below w.heap.size w w2 := (((Below.refl _ _).al (Nat.le_refl _) _).al (Nat.le_refl _) _).thn (Nat.le_refl _) hb2
  have hsz := hb2.size
  simp only [World.size_alloc] at hsz
  have hs0_w2 : w.heap.size < w2.heap.size := by omega
  have hs1_w2 : w.heap.size + 1 < w2.heap.size := by omega
  have hs2_w2 : w.heap.size < w2.heap.size + 1 := by omega
  have hs3_w2 : w.heap.size + 1 < w2.heap.size + 1 := by omega
  have hs4_w2 : ¬ w.heap.size + 1 = w2.heap.size := by omega
  have hs5_w2 : ¬ w.heap.size + 1 = w2.heap.size + 1 := by omega
  obtain ⟨⟨p0, p1, p2⟩, f0, f1, f2⟩ := x1
  obtain ⟨⟨q0, q1, q2⟩, g0, g1, g2⟩ := x2
  clear hb2
  have hml := ho2.len
  go_wp2_with fail
  refine (Ut.right_any A2 m m w2.heap.size ys _ (ho2.rd.alloc (Nat.le_refl _) _) (by omega)).mono ?_
  rintro e' w' ⟨rfl, rfl⟩
  rw [HU.out]
  go_wp2_with fail
  go_region
  all_goals go_wp2_with fail
  all_goals refine bodyPost_ret (ret_tc (A := A) (n := n) (c := c) (a := T) (e := 0) rfl rfl ⟨by go_simp, by go_simp, by go_simp⟩) rfl ⟨A2, m, by simp [rdv], ?_, ?_⟩
  all_goals first
    | ((repeat' (first | with_reducible exact Below.refl _ _ | with_reducible assumption | with_reducible refine Below.drew ?_ | with_reducible refine Below.drewN ?_ _ | with_reducible refine Below.setCell ?_ (by simp <;> omega) _ | with_reducible refine Below.alloc ?_ (by simp <;> omega) _)); done)
    | (refine Own.less (base := w.heap.size + 1 + 1) ?_ (by omega); simp only [World.size_alloc] at ho2; (repeat' (first | with_reducible exact ho2 | with_reducible refine Own.drew ?_ | with_reducible refine Own.alloc ?_ _ | with_reducible refine Own.setAt ?_ (by omega) _ _)))
end Go.Proofs.Ytodgnlhakafhoaa.Wr
