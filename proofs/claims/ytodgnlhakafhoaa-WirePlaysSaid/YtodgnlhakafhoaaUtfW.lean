/- The layer utf: the document's search for a character. -/
import Derived.Test.YtodgnlhakafhoaaUtfU
namespace Go.Proofs.Ytodgnlhakafhoaa.Ut
open Go.ChangeShapes Go.WideShapes Go.ChangeAt Go.RowKit
open Num Mem Can

theorem refcharacter_eq (z C : Int) (h : z = C) (h1 : -9223372036854775808 ≤ C) (h2 : C ≤ 9223372036854775807) (w : World) :
    Calls Try.prog 25 #[.int .i64 z] w fun e w' => e = .returned (.bool (isCh C)) ∧ w = w' := by
  subst h; exact refcharacter_any z h1 h2 w
theorem refput_eq (z : Int) (c : Nat) (h : z = c) (h2 : c ≤ 1114111) (base : Nat) (w : World) (hbase : base ≤ w.heap.size) :
    Calls Try.prog 26 #[.int .i64 z] w fun e w' => ∃ A' n' c', e = .returned (.slice A' n' c') ∧ n' = (uput c).length ∧ Own w' base A' n' c' (uput c) ∧ Below w.heap.size w w' := by
  subst h; exact refput_any c h2 base w hbase

def uV (xs : List UInt8) : Int := if (utk xs).2.2 = 0 then (utk xs).1 else -1
theorem uV_test {n : Nat} {xs : List UInt8} (h : utest n xs) : uV xs = ucand n xs := by
  obtain ⟨h1, h2⟩ := utest_ok h
  unfold uV; rw [if_pos h1, h2]
theorem uV_none {xs : List UInt8} {k : Nat} (h : ∀ j, 1 ≤ j → j < k → ¬ utest j xs) (hk : k = 5 ∨ k = xs.length + 1) : uV xs = -1 := by
  unfold uV
  by_cases h0 : (utk xs).2.2 = 0
  · obtain ⟨h1, h2, h3, h4⟩ := ok_utest h0
    exact absurd h1 (h _ h2 (by omega))
  · rw [if_neg h0]


set_option maxRecDepth 100000 in
set_option maxHeartbeats 20000000 in
theorem whole_any (A : Option Addr) (n c B : Nat) (xs : List UInt8) (w : World) (hr : Rd w B A n xs) (hB : B ≤ w.heap.size) (hnc : n ≤ c) (hn : n ≤ 1000000000) :
    Calls Try.prog 64 #[.slice A n c] w fun e w' => e = .returned (.int .i64 (uV xs)) ∧ Below w.heap.size w w' := by
  have hl := hr.len
  have hNone := fun k => uV_none (xs := xs) (k := k)
  have hTest := fun k => uV_test (xs := xs) (n := k)
  obtain ⟨R, hR⟩ : ∃ R, R = uV xs := ⟨_, rfl⟩
  rw [← hR] at hNone hTest ⊢
  have HNone := Lib.hid hNone
  have HTest := Lib.hid hTest
  clear hR hNone hTest
  have hw1 := (Below.refl w.heap.size w).al (Nat.le_refl _) (.cells #[.int .i64 0, .int .i64 64, .int .i64 4096, .int .i64 262144] 2)
  have hw2 := hw1.al (Nat.le_refl _) (.cells #[.int .i64 0, .int .i64 192, .int .i64 224, .int .i64 240] 2)
  obtain ⟨w2, hw2e⟩ : ∃ w2, w2 = (w.alloc (.cells #[.int .i64 0, .int .i64 64, .int .i64 4096, .int .i64 262144] 2)).alloc (.cells #[.int .i64 0, .int .i64 192, .int .i64 224, .int .i64 240] 2) := ⟨_, rfl⟩
  have hsz : w2.heap.size = w.heap.size + 2 := by rw [hw2e]; simp
  have hcs : ∀ j v, [Value.int .i64 0, .int .i64 64, .int .i64 4096, .int .i64 262144][j]? = some v → w2.cell? ⟨w.heap.size, j, none⟩ = some v := by
    intro j v hj
    rw [hw2e, World.cell?_alloc_lt _ _ _ (by simp)]
    rw [cell_of_row _ _ _ _ _ _ (heap_alloc_new w _)]
    simpa using hj
  have hcm : ∀ j v, [Value.int .i64 0, .int .i64 192, .int .i64 224, .int .i64 240][j]? = some v → w2.cell? ⟨w.heap.size + 1, j, none⟩ = some v := by
    intro j v hj
    have e : w.heap.size + 1 = (w.alloc (.cells #[.int .i64 0, .int .i64 64, .int .i64 4096, .int .i64 262144] 2)).heap.size := by simp
    rw [hw2e, e, cell_of_row _ _ _ _ _ _ (heap_alloc_new _ _)]
    simpa using hj
  rw [← hw2e] at hw2
  have HW2 := Lib.hid hw2e
  have HSZ := Lib.hid hsz
  have HCS := Lib.hid hcs
  have HCM := Lib.hid hcm
  clear hw1 hw2e hsz hcs hcm
  go_enter Try.func64, Try.ntmps64
  go_wp2_with fail
  rw [← HW2.out]
  go_loopw [5] (fun i wr => ∃ k : Nat, i = .int .i64 k ∧ 1 ≤ k ∧ k ≤ 5 ∧ k ≤ n + 1 ∧ (∀ j, 1 ≤ j → j < k → ¬ utest j xs) ∧ Below (w.heap.size + 2) w2 wr) (fun i _ => 5 - (intOf i).toNat)
  case atStart => exact ⟨1, rfl, by omega, by omega, by omega, fun j _ _ => by omega, Below.refl _ _⟩
  case round =>
    obtain ⟨k, rfl, hk1, hk5, hkn, hno, hbw⟩ := hrel
    have HNO := Lib.hid hno
    clear hno
    have hs2 : w.heap.size + 2 ≤ w2.heap.size := by rw [HSZ.out]; omega
    have hbz : Below w.heap.size w wr := hw2.trans (hbw.mono (by omega))
    by_cases hend : k = 5 ∨ k = n + 1
    · have hRn : R = -1 := HNone.out k HNO.out (by rw [hl]; exact hend)
      subst hRn
      clear HNone HTest HNO
      rcases (show k = 5 ∨ (k ≤ 4 ∧ ¬ k ≤ n) by omega) with h | ⟨h, h'⟩
      · subst h
        go_wp2_with fail
        go_ret
        exact ⟨rfl, hbz⟩
      · go_wp2_with fail
        go_ret
        exact ⟨rfl, hbz⟩
    · have hrw : Rd wr B A n xs := hr.below' hbz hB
      rcases (show k = 1 ∨ k = 2 ∨ k = 3 ∨ k = 4 by omega) with h | h | h | h
      · subst h
        have hnk : 1 ≤ n := by omega
        clear hend hk1 hk5 hkn
        obtain ⟨a, r, rfl⟩ : ∃ a r, xs = a :: r := by
          cases xs with
          | nil => simp at hl; omega
          | cons a r =>
            exact ⟨a, r, rfl⟩
        obtain ⟨g, o, hA, hg, hc⟩ := hrw.2 (by omega)
        subst hA
        have c0 := hc 0 a rfl
        have b0 := a.toNat_lt
        rw [Nat.add_zero] at c0
        clear hc
        obtain ⟨C, hC⟩ : ∃ C, C = (a.toNat : Int) := ⟨_, rfl⟩
        have hcand : ucand 1 (a :: r) = C := hC.symm
        have hC1 : -100000000 ≤ C := by omega
        have hC2 : C ≤ 100000000 := by omega
        have HC := Lib.hid hC
        have hT := HTest.out 1
        rw [hcand] at hT
        have HT := Lib.hid hT
        have hnt : ¬ (isCh C = true ∧ (uput C.toNat).length = 1 ∧ uput C.toNat <+: a :: r) → ∀ j, 1 ≤ j → j < 1 + 1 → ¬ utest j (a :: r) := by
          intro h j hj1 hj2 ht
          by_cases hjk : j < 1
          · exact HNO.out j hj1 hjk ht
          · obtain rfl : j = 1 := by omega
            unfold utest at ht
            rw [hcand] at ht
            exact h ht
        have HNT := Lib.hid hnt
        have HL := Lib.hid hl
        clear hC hcand hT hnt hl
        by_cases hch : isCh C = true
        · have hi := (isCh_iff C).1 hch
          have HCH := Lib.hid hch
          obtain ⟨D, hD⟩ : ∃ D : Nat, D = C.toNat := ⟨_, rfl⟩
          have hDC : (D : Int) = C := by omega
          have hD2 : D ≤ 1114111 := by omega
          have HD := Lib.hid hD
          have HDC := Lib.hid hDC
          clear hch hD hDC
          have hpr : decide (uput D <+: a :: r) = true ∨ decide (uput D <+: a :: r) = false := by cases decide (uput D <+: a :: r) <;> simp
          go_wp2_with fail
          refine wp_loop_rounds 1 ?_
          rw [rounds_succ]
          go_wp2_with fail
          refine (refcharacter_eq _ C (by have := HC.out; omega) (by omega) (by omega) _).mono ?_
          rintro e w' ⟨rfl, rfl⟩
          rw [HCH.out]
          go_wp2_with fail
          refine (refput_eq _ D (by have := HC.out; have := HDC.out; omega) hD2 wr.heap.size _ (Nat.le_refl _)).mono ?_
          rintro e w3 ⟨A3, n3, c3, rfl, hn3, ho3, hb3⟩
          have HN3 := Lib.hid hn3
          clear hn3
          have hbz3 := hbz.thn (Nat.le_refl _) hb3
          have hbw3 := hbw.thn hs2 hb3
          by_cases h3 : n3 = 1
          · subst h3
            go_wp2_with fail
            refine (refput_eq _ D (by have := HC.out; have := HDC.out; omega) hD2 w3.heap.size _ (Nat.le_refl _)).mono ?_
            rintro e w4 ⟨A4, n4, c4, rfl, hn4, ho4, hb4⟩
            have hbz4 := hbz3.thn (Nat.le_refl _) hb4
            have hbw4 := hbw3.thn hs2 hb4
            have HN4 := Lib.hid hn4
            clear hn4
            go_wp2_with fail
            refine (refstarts_any (some ⟨g, o, none⟩) A4 n c n4 c4 w4.heap.size (a :: r) (uput D) w4 ((hr.below' hbz4 hB).more (Nat.le_trans hB hbz4.size)) ho4.rd hnc (Nat.le_refl _)).mono ?_
            rintro e w5 ⟨rfl, hb5⟩
            have hbz5 := hbz4.thn (Nat.le_refl _) hb5
            have hbw5 := hbw4.thn hs2 hb5
            rcases hpr with hpr | hpr
            · have HPR := Lib.hid hpr
              rw [HPR.out]
              clear hpr
              go_wp2_with fail
              have hRC : R = C := HT.out (by
                have h1 := HCH.out
                have h2 := of_decide_eq_true HPR.out
                have h3 := HN3.out
                rw [HD.out] at h2 h3
                unfold utest
                have hcand : ucand 1 (a :: r) = C := HC.out.symm
                rw [hcand]
                exact ⟨h1, h3.symm, h2⟩)
              go_ret
              refine ⟨?_, hbz5⟩
              rw [hRC, HC.out]
              first | rfl | (congr 2; omega)
            · have HPR := Lib.hid hpr
              rw [HPR.out]
              clear hpr
              go_wp2_with fail
              go_roundw
              case rel =>
                exact ⟨1 + 1, rfl, by omega, by omega, by omega, HNT.out (fun h => by have h2 := of_decide_eq_false HPR.out; rw [HD.out] at h2; exact h2 h.2.2), hbw5⟩
              case measure => simp [intOf]
          · have h3' : ((n3 : Int) == 1) = false := by simp; omega
            clear hpr
            go_wp2_with fail
            go_roundw
            case rel =>
              exact ⟨1 + 1, rfl, by omega, by omega, by omega, HNT.out (fun h => by have h2 := HN3.out; rw [HD.out, h.2.1] at h2; exact h3 h2), hbw3⟩
            case measure => simp [intOf]
        · have hch' : isCh C = false := by simpa using hch
          have HCH := Lib.hid hch'
          clear hch hch'
          go_wp2_with fail
          refine wp_loop_rounds 1 ?_
          rw [rounds_succ]
          go_wp2_with fail
          refine (refcharacter_eq _ C (by have := HC.out; omega) (by omega) (by omega) _).mono ?_
          rintro e w' ⟨rfl, rfl⟩
          rw [HCH.out]
          go_wp2_with fail
          go_roundw
          case rel =>
            exact ⟨1 + 1, rfl, by omega, by omega, by omega, HNT.out (fun h => by have h1 := HCH.out; rw [h.1] at h1; cases h1), hbw⟩
          case measure => simp [intOf]
      · subst h
        have hnk : 2 ≤ n := by omega
        clear hend hk1 hk5 hkn
        obtain ⟨a, x, r, rfl⟩ : ∃ a x r, xs = a :: x :: r := by
          cases xs with
          | nil => simp at hl; omega
          | cons a r =>
            cases r with
            | nil => simp at hl; omega
            | cons x r =>
              exact ⟨a, x, r, rfl⟩
        obtain ⟨g, o, hA, hg, hc⟩ := hrw.2 (by omega)
        subst hA
        have c0 := hc 0 a rfl
        have b0 := a.toNat_lt
        have c1 := hc 1 x rfl
        have b1 := x.toNat_lt
        rw [Nat.add_zero] at c0
        clear hc
        have m1 := (hbw.cell (p := ⟨w.heap.size + 1, 1, none⟩) (by simp)).trans (HCM.out 1 _ rfl)
        have s1 := (hbw.cell (p := ⟨w.heap.size, 1, none⟩) (by simp)).trans (HCS.out 1 _ rfl)
        obtain ⟨C, hC⟩ : ∃ C, C = ((a.toNat : Int) - 192) * 64 + ((x.toNat : Int) - 128) := ⟨_, rfl⟩
        have hcand : ucand 2 (a :: x :: r) = C := hC.symm
        have hC1 : -100000000 ≤ C := by omega
        have hC2 : C ≤ 100000000 := by omega
        have HC := Lib.hid hC
        have hT := HTest.out 2
        rw [hcand] at hT
        have HT := Lib.hid hT
        have hnt : ¬ (isCh C = true ∧ (uput C.toNat).length = 2 ∧ uput C.toNat <+: a :: x :: r) → ∀ j, 1 ≤ j → j < 2 + 1 → ¬ utest j (a :: x :: r) := by
          intro h j hj1 hj2 ht
          by_cases hjk : j < 2
          · exact HNO.out j hj1 hjk ht
          · obtain rfl : j = 2 := by omega
            unfold utest at ht
            rw [hcand] at ht
            exact h ht
        have HNT := Lib.hid hnt
        have HL := Lib.hid hl
        clear hC hcand hT hnt hl
        by_cases hch : isCh C = true
        · have hi := (isCh_iff C).1 hch
          have HCH := Lib.hid hch
          obtain ⟨D, hD⟩ : ∃ D : Nat, D = C.toNat := ⟨_, rfl⟩
          have hDC : (D : Int) = C := by omega
          have hD2 : D ≤ 1114111 := by omega
          have HD := Lib.hid hD
          have HDC := Lib.hid hDC
          clear hch hD hDC
          have hpr : decide (uput D <+: a :: x :: r) = true ∨ decide (uput D <+: a :: x :: r) = false := by cases decide (uput D <+: a :: x :: r) <;> simp
          go_wp2_with fail
          go_quiet (fail)
          replace hbz := hbz.drewN nq
          replace hbw := hbw.drewN nq
          go_wp2_with fail
          refine wp_loop_rounds 2 ?_
          rw [rounds_succ]
          go_wp2_with fail
          refine wp_loop_rounds 1 ?_
          rw [rounds_succ]
          go_wp2_with fail
          rw [rounds_succ]
          go_wp2_with fail
          refine (refcharacter_eq _ C (by have := HC.out; omega) (by omega) (by omega) _).mono ?_
          rintro e w' ⟨rfl, rfl⟩
          rw [HCH.out]
          go_wp2_with fail
          refine (refput_eq _ D (by have := HC.out; have := HDC.out; omega) hD2 (wr.drewN nq).heap.size _ (Nat.le_refl _)).mono ?_
          rintro e w3 ⟨A3, n3, c3, rfl, hn3, ho3, hb3⟩
          have HN3 := Lib.hid hn3
          clear hn3
          have hbz3 := hbz.thn (Nat.le_refl _) hb3
          have hbw3 := hbw.thn hs2 hb3
          by_cases h3 : n3 = 2
          · subst h3
            go_wp2_with fail
            refine (refput_eq _ D (by have := HC.out; have := HDC.out; omega) hD2 w3.heap.size _ (Nat.le_refl _)).mono ?_
            rintro e w4 ⟨A4, n4, c4, rfl, hn4, ho4, hb4⟩
            have hbz4 := hbz3.thn (Nat.le_refl _) hb4
            have hbw4 := hbw3.thn hs2 hb4
            have HN4 := Lib.hid hn4
            clear hn4
            go_wp2_with fail
            refine (refstarts_any (some ⟨g, o, none⟩) A4 n c n4 c4 w4.heap.size (a :: x :: r) (uput D) w4 ((hr.below' hbz4 hB).more (Nat.le_trans hB hbz4.size)) ho4.rd hnc (Nat.le_refl _)).mono ?_
            rintro e w5 ⟨rfl, hb5⟩
            have hbz5 := hbz4.thn (Nat.le_refl _) hb5
            have hbw5 := hbw4.thn hs2 hb5
            rcases hpr with hpr | hpr
            · have HPR := Lib.hid hpr
              rw [HPR.out]
              clear hpr
              go_wp2_with fail
              have hRC : R = C := HT.out (by
                have h1 := HCH.out
                have h2 := of_decide_eq_true HPR.out
                have h3 := HN3.out
                rw [HD.out] at h2 h3
                unfold utest
                have hcand : ucand 2 (a :: x :: r) = C := HC.out.symm
                rw [hcand]
                exact ⟨h1, h3.symm, h2⟩)
              go_ret
              refine ⟨?_, hbz5⟩
              rw [hRC, HC.out]
              first | rfl | (congr 2; omega)
            · have HPR := Lib.hid hpr
              rw [HPR.out]
              clear hpr
              go_wp2_with fail
              go_roundw
              case rel =>
                exact ⟨2 + 1, rfl, by omega, by omega, by omega, HNT.out (fun h => by have h2 := of_decide_eq_false HPR.out; rw [HD.out] at h2; exact h2 h.2.2), hbw5⟩
              case measure => simp [intOf]
          · have h3' : ((n3 : Int) == 2) = false := by simp; omega
            clear hpr
            go_wp2_with fail
            go_roundw
            case rel =>
              exact ⟨2 + 1, rfl, by omega, by omega, by omega, HNT.out (fun h => by have h2 := HN3.out; rw [HD.out, h.2.1] at h2; exact h3 h2), hbw3⟩
            case measure => simp [intOf]
        · have hch' : isCh C = false := by simpa using hch
          have HCH := Lib.hid hch'
          clear hch hch'
          go_wp2_with fail
          go_quiet (fail)
          replace hbz := hbz.drewN nq
          replace hbw := hbw.drewN nq
          go_wp2_with fail
          refine wp_loop_rounds 2 ?_
          rw [rounds_succ]
          go_wp2_with fail
          refine wp_loop_rounds 1 ?_
          rw [rounds_succ]
          go_wp2_with fail
          rw [rounds_succ]
          go_wp2_with fail
          refine (refcharacter_eq _ C (by have := HC.out; omega) (by omega) (by omega) _).mono ?_
          rintro e w' ⟨rfl, rfl⟩
          rw [HCH.out]
          go_wp2_with fail
          go_roundw
          case rel =>
            exact ⟨2 + 1, rfl, by omega, by omega, by omega, HNT.out (fun h => by have h1 := HCH.out; rw [h.1] at h1; cases h1), hbw⟩
          case measure => simp [intOf]
      · subst h
        have hnk : 3 ≤ n := by omega
        clear hend hk1 hk5 hkn
        obtain ⟨a, x, y, r, rfl⟩ : ∃ a x y r, xs = a :: x :: y :: r := by
          cases xs with
          | nil => simp at hl; omega
          | cons a r =>
            cases r with
            | nil => simp at hl; omega
            | cons x r =>
              cases r with
              | nil => simp at hl; omega
              | cons y r =>
                exact ⟨a, x, y, r, rfl⟩
        obtain ⟨g, o, hA, hg, hc⟩ := hrw.2 (by omega)
        subst hA
        have c0 := hc 0 a rfl
        have b0 := a.toNat_lt
        have c1 := hc 1 x rfl
        have b1 := x.toNat_lt
        have c2 := hc 2 y rfl
        have b2 := y.toNat_lt
        rw [Nat.add_zero] at c0
        clear hc
        have m1 := (hbw.cell (p := ⟨w.heap.size + 1, 2, none⟩) (by simp)).trans (HCM.out 2 _ rfl)
        have s1 := (hbw.cell (p := ⟨w.heap.size, 2, none⟩) (by simp)).trans (HCS.out 2 _ rfl)
        obtain ⟨C, hC⟩ : ∃ C, C = ((a.toNat : Int) - 224) * 4096 + ((x.toNat : Int) - 128) * 64 + ((y.toNat : Int) - 128) := ⟨_, rfl⟩
        have hcand : ucand 3 (a :: x :: y :: r) = C := hC.symm
        have hC1 : -100000000 ≤ C := by omega
        have hC2 : C ≤ 100000000 := by omega
        have HC := Lib.hid hC
        have hT := HTest.out 3
        rw [hcand] at hT
        have HT := Lib.hid hT
        have hnt : ¬ (isCh C = true ∧ (uput C.toNat).length = 3 ∧ uput C.toNat <+: a :: x :: y :: r) → ∀ j, 1 ≤ j → j < 3 + 1 → ¬ utest j (a :: x :: y :: r) := by
          intro h j hj1 hj2 ht
          by_cases hjk : j < 3
          · exact HNO.out j hj1 hjk ht
          · obtain rfl : j = 3 := by omega
            unfold utest at ht
            rw [hcand] at ht
            exact h ht
        have HNT := Lib.hid hnt
        have HL := Lib.hid hl
        clear hC hcand hT hnt hl
        by_cases hch : isCh C = true
        · have hi := (isCh_iff C).1 hch
          have HCH := Lib.hid hch
          obtain ⟨D, hD⟩ : ∃ D : Nat, D = C.toNat := ⟨_, rfl⟩
          have hDC : (D : Int) = C := by omega
          have hD2 : D ≤ 1114111 := by omega
          have HD := Lib.hid hD
          have HDC := Lib.hid hDC
          clear hch hD hDC
          have hpr : decide (uput D <+: a :: x :: y :: r) = true ∨ decide (uput D <+: a :: x :: y :: r) = false := by cases decide (uput D <+: a :: x :: y :: r) <;> simp
          go_wp2_with fail
          go_quiet (fail)
          replace hbz := hbz.drewN nq
          replace hbw := hbw.drewN nq
          go_wp2_with fail
          refine wp_loop_rounds 3 ?_
          rw [rounds_succ]
          go_wp2_with fail
          refine wp_loop_rounds 2 ?_
          rw [rounds_succ]
          go_wp2_with fail
          rw [rounds_succ]
          go_wp2_with fail
          rw [rounds_succ]
          go_wp2_with fail
          refine wp_loop_rounds 1 ?_
          rw [rounds_succ]
          go_wp2_with fail
          rw [rounds_succ]
          go_wp2_with fail
          refine (refcharacter_eq _ C (by have := HC.out; omega) (by omega) (by omega) _).mono ?_
          rintro e w' ⟨rfl, rfl⟩
          rw [HCH.out]
          go_wp2_with fail
          refine (refput_eq _ D (by have := HC.out; have := HDC.out; omega) hD2 (wr.drewN nq).heap.size _ (Nat.le_refl _)).mono ?_
          rintro e w3 ⟨A3, n3, c3, rfl, hn3, ho3, hb3⟩
          have HN3 := Lib.hid hn3
          clear hn3
          have hbz3 := hbz.thn (Nat.le_refl _) hb3
          have hbw3 := hbw.thn hs2 hb3
          by_cases h3 : n3 = 3
          · subst h3
            go_wp2_with fail
            refine (refput_eq _ D (by have := HC.out; have := HDC.out; omega) hD2 w3.heap.size _ (Nat.le_refl _)).mono ?_
            rintro e w4 ⟨A4, n4, c4, rfl, hn4, ho4, hb4⟩
            have hbz4 := hbz3.thn (Nat.le_refl _) hb4
            have hbw4 := hbw3.thn hs2 hb4
            have HN4 := Lib.hid hn4
            clear hn4
            go_wp2_with fail
            refine (refstarts_any (some ⟨g, o, none⟩) A4 n c n4 c4 w4.heap.size (a :: x :: y :: r) (uput D) w4 ((hr.below' hbz4 hB).more (Nat.le_trans hB hbz4.size)) ho4.rd hnc (Nat.le_refl _)).mono ?_
            rintro e w5 ⟨rfl, hb5⟩
            have hbz5 := hbz4.thn (Nat.le_refl _) hb5
            have hbw5 := hbw4.thn hs2 hb5
            rcases hpr with hpr | hpr
            · have HPR := Lib.hid hpr
              rw [HPR.out]
              clear hpr
              go_wp2_with fail
              have hRC : R = C := HT.out (by
                have h1 := HCH.out
                have h2 := of_decide_eq_true HPR.out
                have h3 := HN3.out
                rw [HD.out] at h2 h3
                unfold utest
                have hcand : ucand 3 (a :: x :: y :: r) = C := HC.out.symm
                rw [hcand]
                exact ⟨h1, h3.symm, h2⟩)
              go_ret
              refine ⟨?_, hbz5⟩
              rw [hRC, HC.out]
              first | rfl | (congr 2; omega)
            · have HPR := Lib.hid hpr
              rw [HPR.out]
              clear hpr
              go_wp2_with fail
              go_roundw
              case rel =>
                exact ⟨3 + 1, rfl, by omega, by omega, by omega, HNT.out (fun h => by have h2 := of_decide_eq_false HPR.out; rw [HD.out] at h2; exact h2 h.2.2), hbw5⟩
              case measure => simp [intOf]
          · have h3' : ((n3 : Int) == 3) = false := by simp; omega
            clear hpr
            go_wp2_with fail
            go_roundw
            case rel =>
              exact ⟨3 + 1, rfl, by omega, by omega, by omega, HNT.out (fun h => by have h2 := HN3.out; rw [HD.out, h.2.1] at h2; exact h3 h2), hbw3⟩
            case measure => simp [intOf]
        · have hch' : isCh C = false := by simpa using hch
          have HCH := Lib.hid hch'
          clear hch hch'
          go_wp2_with fail
          go_quiet (fail)
          replace hbz := hbz.drewN nq
          replace hbw := hbw.drewN nq
          go_wp2_with fail
          refine wp_loop_rounds 3 ?_
          rw [rounds_succ]
          go_wp2_with fail
          refine wp_loop_rounds 2 ?_
          rw [rounds_succ]
          go_wp2_with fail
          rw [rounds_succ]
          go_wp2_with fail
          rw [rounds_succ]
          go_wp2_with fail
          refine wp_loop_rounds 1 ?_
          rw [rounds_succ]
          go_wp2_with fail
          rw [rounds_succ]
          go_wp2_with fail
          refine (refcharacter_eq _ C (by have := HC.out; omega) (by omega) (by omega) _).mono ?_
          rintro e w' ⟨rfl, rfl⟩
          rw [HCH.out]
          go_wp2_with fail
          go_roundw
          case rel =>
            exact ⟨3 + 1, rfl, by omega, by omega, by omega, HNT.out (fun h => by have h1 := HCH.out; rw [h.1] at h1; cases h1), hbw⟩
          case measure => simp [intOf]
      · subst h
        have hnk : 4 ≤ n := by omega
        clear hend hk1 hk5 hkn
        obtain ⟨a, x, y, z, r, rfl⟩ : ∃ a x y z r, xs = a :: x :: y :: z :: r := by
          cases xs with
          | nil => simp at hl; omega
          | cons a r =>
            cases r with
            | nil => simp at hl; omega
            | cons x r =>
              cases r with
              | nil => simp at hl; omega
              | cons y r =>
                cases r with
                | nil => simp at hl; omega
                | cons z r =>
                  exact ⟨a, x, y, z, r, rfl⟩
        obtain ⟨g, o, hA, hg, hc⟩ := hrw.2 (by omega)
        subst hA
        have c0 := hc 0 a rfl
        have b0 := a.toNat_lt
        have c1 := hc 1 x rfl
        have b1 := x.toNat_lt
        have c2 := hc 2 y rfl
        have b2 := y.toNat_lt
        have c3 := hc 3 z rfl
        have b3 := z.toNat_lt
        rw [Nat.add_zero] at c0
        clear hc
        have m1 := (hbw.cell (p := ⟨w.heap.size + 1, 3, none⟩) (by simp)).trans (HCM.out 3 _ rfl)
        have s1 := (hbw.cell (p := ⟨w.heap.size, 3, none⟩) (by simp)).trans (HCS.out 3 _ rfl)
        obtain ⟨C, hC⟩ : ∃ C, C = ((a.toNat : Int) - 240) * 262144 + ((x.toNat : Int) - 128) * 4096 + ((y.toNat : Int) - 128) * 64 + ((z.toNat : Int) - 128) := ⟨_, rfl⟩
        have hcand : ucand 4 (a :: x :: y :: z :: r) = C := hC.symm
        have hC1 : -100000000 ≤ C := by omega
        have hC2 : C ≤ 100000000 := by omega
        have HC := Lib.hid hC
        have hT := HTest.out 4
        rw [hcand] at hT
        have HT := Lib.hid hT
        have hnt : ¬ (isCh C = true ∧ (uput C.toNat).length = 4 ∧ uput C.toNat <+: a :: x :: y :: z :: r) → ∀ j, 1 ≤ j → j < 4 + 1 → ¬ utest j (a :: x :: y :: z :: r) := by
          intro h j hj1 hj2 ht
          by_cases hjk : j < 4
          · exact HNO.out j hj1 hjk ht
          · obtain rfl : j = 4 := by omega
            unfold utest at ht
            rw [hcand] at ht
            exact h ht
        have HNT := Lib.hid hnt
        have HL := Lib.hid hl
        clear hC hcand hT hnt hl
        by_cases hch : isCh C = true
        · have hi := (isCh_iff C).1 hch
          have HCH := Lib.hid hch
          obtain ⟨D, hD⟩ : ∃ D : Nat, D = C.toNat := ⟨_, rfl⟩
          have hDC : (D : Int) = C := by omega
          have hD2 : D ≤ 1114111 := by omega
          have HD := Lib.hid hD
          have HDC := Lib.hid hDC
          clear hch hD hDC
          have hpr : decide (uput D <+: a :: x :: y :: z :: r) = true ∨ decide (uput D <+: a :: x :: y :: z :: r) = false := by cases decide (uput D <+: a :: x :: y :: z :: r) <;> simp
          go_wp2_with fail
          go_quiet (fail)
          replace hbz := hbz.drewN nq
          replace hbw := hbw.drewN nq
          go_wp2_with fail
          refine wp_loop_rounds 4 ?_
          rw [rounds_succ]
          go_wp2_with fail
          refine wp_loop_rounds 3 ?_
          rw [rounds_succ]
          go_wp2_with fail
          rw [rounds_succ]
          go_wp2_with fail
          rw [rounds_succ]
          go_wp2_with fail
          rw [rounds_succ]
          go_wp2_with fail
          refine wp_loop_rounds 2 ?_
          rw [rounds_succ]
          go_wp2_with fail
          rw [rounds_succ]
          go_wp2_with fail
          rw [rounds_succ]
          go_wp2_with fail
          refine wp_loop_rounds 1 ?_
          rw [rounds_succ]
          go_wp2_with fail
          rw [rounds_succ]
          go_wp2_with fail
          refine (refcharacter_eq _ C (by have := HC.out; omega) (by omega) (by omega) _).mono ?_
          rintro e w' ⟨rfl, rfl⟩
          rw [HCH.out]
          go_wp2_with fail
          refine (refput_eq _ D (by have := HC.out; have := HDC.out; omega) hD2 (wr.drewN nq).heap.size _ (Nat.le_refl _)).mono ?_
          rintro e w3 ⟨A3, n3, c3, rfl, hn3, ho3, hb3⟩
          have HN3 := Lib.hid hn3
          clear hn3
          have hbz3 := hbz.thn (Nat.le_refl _) hb3
          have hbw3 := hbw.thn hs2 hb3
          by_cases h3 : n3 = 4
          · subst h3
            go_wp2_with fail
            refine (refput_eq _ D (by have := HC.out; have := HDC.out; omega) hD2 w3.heap.size _ (Nat.le_refl _)).mono ?_
            rintro e w4 ⟨A4, n4, c4, rfl, hn4, ho4, hb4⟩
            have hbz4 := hbz3.thn (Nat.le_refl _) hb4
            have hbw4 := hbw3.thn hs2 hb4
            have HN4 := Lib.hid hn4
            clear hn4
            go_wp2_with fail
            refine (refstarts_any (some ⟨g, o, none⟩) A4 n c n4 c4 w4.heap.size (a :: x :: y :: z :: r) (uput D) w4 ((hr.below' hbz4 hB).more (Nat.le_trans hB hbz4.size)) ho4.rd hnc (Nat.le_refl _)).mono ?_
            rintro e w5 ⟨rfl, hb5⟩
            have hbz5 := hbz4.thn (Nat.le_refl _) hb5
            have hbw5 := hbw4.thn hs2 hb5
            rcases hpr with hpr | hpr
            · have HPR := Lib.hid hpr
              rw [HPR.out]
              clear hpr
              go_wp2_with fail
              have hRC : R = C := HT.out (by
                have h1 := HCH.out
                have h2 := of_decide_eq_true HPR.out
                have h3 := HN3.out
                rw [HD.out] at h2 h3
                unfold utest
                have hcand : ucand 4 (a :: x :: y :: z :: r) = C := HC.out.symm
                rw [hcand]
                exact ⟨h1, h3.symm, h2⟩)
              go_ret
              refine ⟨?_, hbz5⟩
              rw [hRC, HC.out]
              first | rfl | (congr 2; omega)
            · have HPR := Lib.hid hpr
              rw [HPR.out]
              clear hpr
              go_wp2_with fail
              go_roundw
              case rel =>
                exact ⟨4 + 1, rfl, by omega, by omega, by omega, HNT.out (fun h => by have h2 := of_decide_eq_false HPR.out; rw [HD.out] at h2; exact h2 h.2.2), hbw5⟩
              case measure => simp [intOf]
          · have h3' : ((n3 : Int) == 4) = false := by simp; omega
            clear hpr
            go_wp2_with fail
            go_roundw
            case rel =>
              exact ⟨4 + 1, rfl, by omega, by omega, by omega, HNT.out (fun h => by have h2 := HN3.out; rw [HD.out, h.2.1] at h2; exact h3 h2), hbw3⟩
            case measure => simp [intOf]
        · have hch' : isCh C = false := by simpa using hch
          have HCH := Lib.hid hch'
          clear hch hch'
          go_wp2_with fail
          go_quiet (fail)
          replace hbz := hbz.drewN nq
          replace hbw := hbw.drewN nq
          go_wp2_with fail
          refine wp_loop_rounds 4 ?_
          rw [rounds_succ]
          go_wp2_with fail
          refine wp_loop_rounds 3 ?_
          rw [rounds_succ]
          go_wp2_with fail
          rw [rounds_succ]
          go_wp2_with fail
          rw [rounds_succ]
          go_wp2_with fail
          rw [rounds_succ]
          go_wp2_with fail
          refine wp_loop_rounds 2 ?_
          rw [rounds_succ]
          go_wp2_with fail
          rw [rounds_succ]
          go_wp2_with fail
          rw [rounds_succ]
          go_wp2_with fail
          refine wp_loop_rounds 1 ?_
          rw [rounds_succ]
          go_wp2_with fail
          rw [rounds_succ]
          go_wp2_with fail
          refine (refcharacter_eq _ C (by have := HC.out; omega) (by omega) (by omega) _).mono ?_
          rintro e w' ⟨rfl, rfl⟩
          rw [HCH.out]
          go_wp2_with fail
          go_roundw
          case rel =>
            exact ⟨4 + 1, rfl, by omega, by omega, by omega, HNT.out (fun h => by have h1 := HCH.out; rw [h.1] at h1; cases h1), hbw⟩
          case measure => simp [intOf]
end Go.Proofs.Ytodgnlhakafhoaa.Ut
