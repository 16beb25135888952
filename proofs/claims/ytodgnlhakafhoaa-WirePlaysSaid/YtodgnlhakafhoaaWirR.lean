/- The layer wire: the document's reader. Printed by wip/refgen.py. -/
import Derived.Test.YtodgnlhakafhoaaWirQ
import Derived.Test.YtodgnlhakafhoaaVarL
namespace Go.Proofs.Ytodgnlhakafhoaa.Wr
open Go.ChangeShapes Go.WideShapes Go.ChangeAt Go.RowKit
open Num Mem Can

set_option maxRecDepth 100000 in
set_option maxHeartbeats 4000000 in
theorem rready_any (g : Nat) (A : Option Addr) (n c : Nat) (a e : Int) (w : World) (hx : Bxr w g A n c a e) (hg : g < w.heap.size) :
    Calls Try.prog 75 #[.pointer (some ⟨g, 0, none⟩)] w fun e' w' => e' = .returned (.bool (decide (stE n a e = 0))) ∧ Bxr w' g A n c a (stE n a e) ∧ Off g w.heap.size w w' := by
  by_cases h0 : e = 0
  · subst h0
    by_cases h1 : a < 0 ∨ (n : Int) < a
    · rw [stE_out h1]
      rcases (show a < 0 ∨ (¬ a < 0 ∧ (n : Int) < a) by omega) with h | ⟨h, h'⟩
      · clear h1
        have f1 : decide (a < 0) = true := by simp [h]
        go_enter Try.func75, Try.ntmps75
        go_wp2_with fail
        refine region_can [0, 1, 2, 3, 4, 5, 6, 7, 8, 9, 10, 11, 12, 13, 14, 15, 16, 17, 18, 19, 20, 21, 22, 23] [] (by kernel_rfl) (by kernel_rfl) (by simp) (by kernel_rfl) (fun _ _ d _ _ h => by cases d <;> exact h) (fun wd hd hds => ?_)
        have ho : Off g w.heap.size w wd := Off.of hd
        have BXD := Lib.hid (Bxr.below hx hd hg)
        have hds' : g < wd.heap.size := by omega
        clear hd hds hg
        repeat ((first | (refine can_pure (v := ?_) rfl rfl rfl ?_ ?_; rotate_left; · (intro w'; go_simp; try with_reducible rfl)) | (refine can_skip rfl rfl rfl ?_) | (refine can_read rfl rfl rfl (g + 1) (by omega) ?_ ?_ ?_; rotate_left; · (intro w' hb; obtain ⟨⟨z0, z1, z2⟩, _, _, _⟩ := Bxr.below BXD.out hb (by omega); go_simp; try with_reducible rfl))); simp only [Act.put, List.setIfInBounds_toArray, List.set_cons_zero, List.set_cons_succ])
        refine can_done ?_
        obtain ⟨⟨r0, r1, r2⟩, k0, k1, k2⟩ := BXD.out
        go_wp2
        go_ret
        exact ⟨rfl, ⟨⟨by go_simp, by go_simp, by go_simp⟩, by go_simp, by go_simp, by go_simp⟩, by repeat' (first | with_reducible exact Off.refl _ _ _ | with_reducible assumption | with_reducible refine Off.drew ?_ | with_reducible refine Off.setAt ?_ _ _ | with_reducible refine Off.alloc ?_ (by simp <;> omega) _)⟩
      · clear h1
        have f1 : decide (a < 0) = false := by simp; omega
        have f2 : decide ((n : Int) < a) = true := by simp [h']
        go_enter Try.func75, Try.ntmps75
        go_wp2_with fail
        refine region_can [0, 1, 2, 3, 4, 5, 6, 7, 8, 9, 10, 11, 12, 13, 14, 15, 16, 17, 18, 19, 20, 21, 22, 23] [] (by kernel_rfl) (by kernel_rfl) (by simp) (by kernel_rfl) (fun _ _ d _ _ h => by cases d <;> exact h) (fun wd hd hds => ?_)
        have ho : Off g w.heap.size w wd := Off.of hd
        have BXD := Lib.hid (Bxr.below hx hd hg)
        have hds' : g < wd.heap.size := by omega
        clear hd hds hg
        repeat ((first | (refine can_pure (v := ?_) rfl rfl rfl ?_ ?_; rotate_left; · (intro w'; go_simp; try with_reducible rfl)) | (refine can_skip rfl rfl rfl ?_) | (refine can_read rfl rfl rfl (g + 1) (by omega) ?_ ?_ ?_; rotate_left; · (intro w' hb; obtain ⟨⟨z0, z1, z2⟩, _, _, _⟩ := Bxr.below BXD.out hb (by omega); go_simp; try with_reducible rfl))); simp only [Act.put, List.setIfInBounds_toArray, List.set_cons_zero, List.set_cons_succ])
        refine can_done ?_
        obtain ⟨⟨r0, r1, r2⟩, k0, k1, k2⟩ := BXD.out
        go_wp2
        go_ret
        exact ⟨rfl, ⟨⟨by go_simp, by go_simp, by go_simp⟩, by go_simp, by go_simp, by go_simp⟩, by repeat' (first | with_reducible exact Off.refl _ _ _ | with_reducible assumption | with_reducible refine Off.drew ?_ | with_reducible refine Off.setAt ?_ _ _ | with_reducible refine Off.alloc ?_ (by simp <;> omega) _)⟩
    · rw [stE_in h1]
      have g1 : ¬ a < 0 := by omega
      have g2 : ¬ (n : Int) < a := by omega
      have f1 : decide (a < 0) = false := by simp; omega
      have f2 : decide ((n : Int) < a) = false := by simp; omega
      clear h1
      go_enter Try.func75, Try.ntmps75
      go_wp2_with fail
      refine region_can [0, 1, 2, 3, 4, 5, 6, 7, 8, 9, 10, 11, 12, 13, 14, 15, 16, 17, 18, 19, 20, 21, 22, 23] [] (by kernel_rfl) (by kernel_rfl) (by simp) (by kernel_rfl) (fun _ _ d _ _ h => by cases d <;> exact h) (fun wd hd hds => ?_)
      have ho : Off g w.heap.size w wd := Off.of hd
      have BXD := Lib.hid (Bxr.below hx hd hg)
      have hds' : g < wd.heap.size := by omega
      clear hd hds hg
      repeat ((first | (refine can_pure (v := ?_) rfl rfl rfl ?_ ?_; rotate_left; · (intro w'; go_simp; try with_reducible rfl)) | (refine can_skip rfl rfl rfl ?_) | (refine can_read rfl rfl rfl (g + 1) (by omega) ?_ ?_ ?_; rotate_left; · (intro w' hb; obtain ⟨⟨z0, z1, z2⟩, _, _, _⟩ := Bxr.below BXD.out hb (by omega); go_simp; try with_reducible rfl))); simp only [Act.put, List.setIfInBounds_toArray, List.set_cons_zero, List.set_cons_succ])
      refine can_done ?_
      obtain ⟨⟨r0, r1, r2⟩, k0, k1, k2⟩ := BXD.out
      go_wp2
      go_ret
      exact ⟨rfl, ⟨⟨by go_simp, by go_simp, by go_simp⟩, by go_simp, by go_simp, by go_simp⟩, by repeat' (first | with_reducible exact Off.refl _ _ _ | with_reducible assumption | with_reducible refine Off.drew ?_ | with_reducible refine Off.setAt ?_ _ _ | with_reducible refine Off.alloc ?_ (by simp <;> omega) _)⟩
  · rw [stE_no h0]
    have h2 : (e == 0) = false := by simp [h0]
    go_enter Try.func75, Try.ntmps75
    go_wp2_with fail
    refine region_can [0, 1, 2, 3, 4, 5, 6, 7, 8, 9, 10, 11, 12, 13, 14, 15, 16, 17, 18, 19, 20, 21, 22, 23] [] (by kernel_rfl) (by kernel_rfl) (by simp) (by kernel_rfl) (fun _ _ d _ _ h => by cases d <;> exact h) (fun wd hd hds => ?_)
    have ho : Off g w.heap.size w wd := Off.of hd
    have BXD := Lib.hid (Bxr.below hx hd hg)
    have hds' : g < wd.heap.size := by omega
    clear hd hds hg
    repeat ((first | (refine can_pure (v := ?_) rfl rfl rfl ?_ ?_; rotate_left; · (intro w'; go_simp; try with_reducible rfl)) | (refine can_skip rfl rfl rfl ?_) | (refine can_read rfl rfl rfl (g + 1) (by omega) ?_ ?_ ?_; rotate_left; · (intro w' hb; obtain ⟨⟨z0, z1, z2⟩, _, _, _⟩ := Bxr.below BXD.out hb (by omega); go_simp; try with_reducible rfl))); simp only [Act.put, List.setIfInBounds_toArray, List.set_cons_zero, List.set_cons_succ])
    refine can_done ?_
    obtain ⟨⟨r0, r1, r2⟩, k0, k1, k2⟩ := BXD.out
    go_wp2
    go_ret
    exact ⟨by simp [h0], ⟨⟨by go_simp, by go_simp, by go_simp⟩, by go_simp, by go_simp, by go_simp⟩, by repeat' (first | with_reducible exact Off.refl _ _ _ | with_reducible assumption | with_reducible refine Off.drew ?_ | with_reducible refine Off.setAt ?_ _ _ | with_reducible refine Off.alloc ?_ (by simp <;> omega) _)⟩

set_option maxRecDepth 100000 in
set_option maxHeartbeats 4000000 in
theorem rfixed_no (g : Nat) (A : Option Addr) (n c : Nat) (a e k : Int) (w : World) (hx : Bxr w g A n c a e) (hg : g < w.heap.size) (h1 : stE n a e ≠ 0) :
    Calls Try.prog 71 #[.pointer (some ⟨g, 0, none⟩), .int .i64 k] w fun e' w' => ∃ A' l c', e' = .returned (.slice A' l c') ∧ l ≤ c' ∧ Rd w' w'.heap.size A' l [] ∧ (0 < l → ∀ ad, A' = some ad → w.heap.size ≤ ad.block) ∧ Bxr w' g A n c a (stE n a e) ∧ Off g w.heap.size w w' := by
  obtain ⟨E, hE⟩ : ∃ E, E = stE n a e := ⟨_, rfl⟩
  have hc := rready_any g A n c a e w hx hg
  rw [← hE] at h1 hc ⊢
  have h3 : decide (E = 0) = false := by simp [h1]
  rw [h3] at hc
  clear hE h3
  go_enter Try.func71, Try.ntmps71
  go_wp2_with fail
  refine hc.mono ?_
  rintro e' w1 ⟨rfl, hx1, ho1⟩
  go_wp2
  go_ret
  exact ⟨none, 0, 0, rfl, Nat.le_refl _, Rd.nil _ _ _, by omega, hx1, ho1⟩
set_option maxRecDepth 100000 in
set_option maxHeartbeats 4000000 in
theorem rfixed_short (g : Nat) (A : Option Addr) (n c q : Nat) (k : Int) (w : World) (hx : Bxr w g A n c q 0) (hg : g < w.heap.size) (hn : n ≤ 1000000000) (hq : q ≤ n) (hk : (n : Int) - q < max k 0) :
    Calls Try.prog 71 #[.pointer (some ⟨g, 0, none⟩), .int .i64 k] w fun e' w' => ∃ A' l c', e' = .returned (.slice A' l c') ∧ l ≤ c' ∧ Rd w' w'.heap.size A' l [] ∧ (0 < l → ∀ ad, A' = some ad → w.heap.size ≤ ad.block) ∧ Bxr w' g A n c q 10 ∧ Off g w.heap.size w w' := by
  have hs : stE n (q : Int) 0 = 0 := stE_in (by omega)
  have HS := Lib.hid hs
  have g0 : ¬ k < 0 := by omega
  have g1 : (n : Int) - q < k := by omega
  have f1 : IntKind.i64.wrap ((n : Int) - q) = (n : Int) - q := wrap_i64 (by omega) (by omega)
  have f2 : decide ((n : Int) - q < k) = true := by simp [g1]
  clear hk hs
  go_enter Try.func71, Try.ntmps71
  go_wp2_with fail
  refine (rready_any g A n c q 0 w hx hg).mono ?_
  rw [HS.out]
  rintro e' w1 ⟨rfl, hx1, ho1⟩
  have hg1 := Nat.lt_of_lt_of_le hg ho1.size
  clear hx hg
  go_wp2_with fail
  refine region_can [0, 1, 2, 3, 4, 5, 6, 7, 8, 9, 10, 11] [] (by kernel_rfl) (by kernel_rfl) (by simp) (by kernel_rfl) (fun _ _ d _ _ h => by cases d <;> exact h) (fun wd hd hds => ?_)
  have ho2 : Off g w.heap.size w wd := ho1.trans ((Off.of hd).mono ho1.size)
  have BXD := Lib.hid (Bxr.below hx1 hd hg1)
  have hgd : g < wd.heap.size := by omega
  clear hd hds ho1 hx1 hg1
  repeat ((first | (refine can_pure (v := ?_) rfl rfl rfl ?_ ?_; rotate_left; · (intro w'; go_simp; try with_reducible rfl)) | (refine can_skip rfl rfl rfl ?_) | (refine can_read rfl rfl rfl (g + 1) (by omega) ?_ ?_ ?_; rotate_left; · (intro w' hb; obtain ⟨⟨z0, z1, z2⟩, _, _, _⟩ := Bxr.below BXD.out hb (by omega); go_simp; try with_reducible rfl))); simp only [Act.put, List.setIfInBounds_toArray, List.set_cons_zero, List.set_cons_succ])
  refine can_done ?_
  obtain ⟨⟨r0, r1, r2⟩, k0, k1, k2⟩ := BXD.out
  go_wp2
  go_ret
  exact ⟨none, 0, 0, rfl, Nat.le_refl _, Rd.nil _ _ _, by omega, ⟨⟨by go_simp, by go_simp, by go_simp⟩, by go_simp, by go_simp, by go_simp⟩, by repeat' (first | with_reducible exact Off.refl _ _ _ | with_reducible assumption | with_reducible refine Off.drew ?_ | with_reducible refine Off.setAt ?_ _ _ | with_reducible refine Off.alloc ?_ (by simp <;> omega) _)⟩
set_option maxRecDepth 100000 in
set_option maxHeartbeats 4000000 in
theorem rfixed_okm (g : Nat) (A : Option Addr) (n c B q m : Nat) (xs : List UInt8) (w : World) (hx : Bxr w g A n c q 0) (hg : g < w.heap.size) (hr : Rd w B A n xs) (hB : B ≤ g) (hnc : n ≤ c) (hn : n ≤ 1000000000) (hq : q + m ≤ n) :
    Calls Try.prog 71 #[.pointer (some ⟨g, 0, none⟩), .int .i64 (m : Int)] w fun e' w' => ∃ A' l c', e' = .returned (.slice A' l c') ∧ l ≤ c' ∧ Rd w' w'.heap.size A' l ((xs.drop q).take m) ∧ (0 < l → ∀ ad, A' = some ad → w.heap.size ≤ ad.block) ∧ Bxr w' g A n c ((q : Int) + m) 0 ∧ Off g w.heap.size w w' := by
  have hs : stE n (q : Int) 0 = 0 := stE_in (by omega)
  have hBw : B ≤ w.heap.size := by omega
  have HS := Lib.hid hs
  have g0 : ¬ (m : Int) < 0 := by omega
  have g1 : ¬ (n : Int) - q < m := by omega
  have f1 : IntKind.i64.wrap ((n : Int) - q) = (n : Int) - q := wrap_i64 (by omega) (by omega)
  have f2 : decide ((n : Int) - q < m) = false := by simp; omega
  have f3 : IntKind.i64.wrap ((q : Int) + m) = (q : Int) + m := wrap_i64 (by omega) (by omega)
  clear hs
  go_enter Try.func71, Try.ntmps71
  go_wp2_with fail
  refine (rready_any g A n c q 0 w hx hg).mono ?_
  rw [HS.out]
  rintro e' w1 ⟨rfl, hx1, ho1⟩
  have hg1 := Nat.lt_of_lt_of_le hg ho1.size
  clear hx hg
  go_wp2_with fail
  refine region_can [0, 1, 2, 3, 4, 5, 6, 7, 8, 9, 10, 11] [] (by kernel_rfl) (by kernel_rfl) (by simp) (by kernel_rfl) (fun _ _ d _ _ h => by cases d <;> exact h) (fun wd hd hds => ?_)
  have ho2 : Off g w.heap.size w wd := ho1.trans ((Off.of hd).mono ho1.size)
  have BXD := Lib.hid (Bxr.below hx1 hd hg1)
  have hgd : g < wd.heap.size := by omega
  clear hd hds ho1 hx1 hg1
  repeat ((first | (refine can_pure (v := ?_) rfl rfl rfl ?_ ?_; rotate_left; · (intro w'; go_simp; try with_reducible rfl)) | (refine can_skip rfl rfl rfl ?_) | (refine can_read rfl rfl rfl (g + 1) (by omega) ?_ ?_ ?_; rotate_left; · (intro w' hb; obtain ⟨⟨z0, z1, z2⟩, _, _, _⟩ := Bxr.below BXD.out hb (by omega); go_simp; try with_reducible rfl))); simp only [Act.put, List.setIfInBounds_toArray, List.set_cons_zero, List.set_cons_succ])
  refine can_done ?_
  obtain ⟨⟨r0, r1, r2⟩, k0, k1, k2⟩ := BXD.out
  go_upto_region 8 with fail
  have hrd := hr.off ho2 hBw hB
  have hsw := ho2.size
  clear r0 r1 r2 k0 k1 k2
  refine region_can [1, 2, 3, 4, 5, 6, 7, 8, 9, 10, 11, 12, 13, 14, 15, 0, 16, 17] [0, 16] (by kernel_rfl) (by kernel_rfl) (by simp) (by kernel_rfl) (fun _ _ d _ _ h => by cases d <;> exact h) (fun we he hes => ?_)
  have BXE := Lib.hid (Bxr.below BXD.out he hgd)
  have hoe : Off g w.heap.size w we := ho2.trans ((Off.of he).mono hsw)
  have hre := hrd.below' he (by omega)
  have hze : w.heap.size ≤ we.heap.size := by omega
  have hge : g < we.heap.size := by omega
  clear he hes ho2 BXD
  repeat ((first | (refine can_pure (v := ?_) rfl rfl rfl ?_ ?_; rotate_left; · (intro w'; go_simp; try with_reducible rfl)) | (refine can_skip rfl rfl rfl ?_) | (refine can_read rfl rfl rfl (g + 1) (by omega) ?_ ?_ ?_; rotate_left; · (intro w' hb; obtain ⟨⟨z0, z1, z2⟩, _, _, _⟩ := Bxr.below BXE.out hb (by omega); go_simp; try with_reducible rfl))); simp only [Act.put, List.setIfInBounds_toArray, List.set_cons_zero, List.set_cons_succ])
  refine can_cut2 (p := q) (q := q + m) rfl rfl rfl rfl rfl rfl hre (by omega) (by omega) (by omega) (fun A1 hr1 => ?_)
  simp only [Act.put, List.setIfInBounds_toArray, List.set_cons_zero, List.set_cons_succ]
  refine can_make rfl rfl we.heap.size (by omega) (fun Q1 hQ1 => ?_)
  go_wp2_with fail
  refine hQ1 _ _ ((Below.refl _ _).alloc (Nat.le_refl _) _) ?_
  refine can_make rfl rfl we.heap.size (Nat.le_refl _) (fun Q1 hQ1 => ?_)
  go_wp2_with (at_builtin; refine wpl_app rfl rfl (Own.lit we we.heap.size [] (Nat.le_refl _) (by simp)) rfl (hr1.alloc (by omega) _) (by omega) (by simp) ?_; intro A2 c2 w2 h2o h2b; simp only [List.nil_append] at h2o)
  refine hQ1 _ _ h2b ?_
  have hb2 := ((Below.refl we.heap.size we).al (Nat.le_refl _) (.cells #[] 5)).trans h2b
  have ho3 : Off g w.heap.size w w2 := hoe.trans ((Off.of hb2).mono hze)
  have hm : 0 + (q + m - q) = m := by omega
  rw [hm] at h2o ⊢
  have hx2 := Bxr.below BXE.out hb2 hge
  have hg2 : g < w2.heap.size := by have := hb2.size; omega
  have HYY : Rd w2 w2.heap.size A2 m ((xs.drop q).take m) := by
    have h := h2o.rd
    rwa [List.drop_take, show q + m - q = m by omega] at h
  have hcap := h2o.cap
  have HBK := h2o.block
  clear h2b hb2 hoe h2o hr1 hrd hre hm BXE
  repeat ((first | (refine can_pure (v := ?_) rfl rfl rfl ?_ ?_; rotate_left; · (intro w'; go_simp; try with_reducible rfl)) | (refine can_skip rfl rfl rfl ?_)); simp only [Act.put, List.setIfInBounds_toArray, List.set_cons_zero, List.set_cons_succ])
  refine can_done ?_
  obtain ⟨⟨r0, r1, r2⟩, k0, k1, k2⟩ := hx2
  go_wp2
  go_ret
  exact ⟨A2, m, c2, rfl, hcap, Rd.setOther HYY (fun _ ad h => by have := HBK ad h; omega) _ _ |>.more (by simp), fun _ ad h => by have := HBK ad h; omega, ⟨⟨by go_simp, by go_simp, by go_simp⟩, by go_simp, by go_simp, by go_simp⟩, by repeat' (first | with_reducible exact Off.refl _ _ _ | with_reducible assumption | with_reducible refine Off.drew ?_ | with_reducible refine Off.setAt ?_ _ _ | with_reducible refine Off.alloc ?_ (by simp <;> omega) _)⟩
set_option maxRecDepth 100000 in
set_option maxHeartbeats 4000000 in
theorem rfixed_ok0 (g : Nat) (A : Option Addr) (n c B q : Nat) (k : Int) (xs : List UInt8) (w : World) (hx : Bxr w g A n c q 0) (hg : g < w.heap.size) (hr : Rd w B A n xs) (hB : B ≤ g) (hnc : n ≤ c) (hn : n ≤ 1000000000) (hq : q ≤ n) (hk : k < 0) :
    Calls Try.prog 71 #[.pointer (some ⟨g, 0, none⟩), .int .i64 k] w fun e' w' => ∃ A' l c', e' = .returned (.slice A' l c') ∧ l ≤ c' ∧ Rd w' w'.heap.size A' l ((xs.drop q).take 0) ∧ (0 < l → ∀ ad, A' = some ad → w.heap.size ≤ ad.block) ∧ Bxr w' g A n c (q : Int) 0 ∧ Off g w.heap.size w w' := by
  have hs : stE n (q : Int) 0 = 0 := stE_in (by omega)
  have hBw : B ≤ w.heap.size := by omega
  have HS := Lib.hid hs
  have g1 : ¬ (n : Int) - q < 0 := by omega
  have f1 : IntKind.i64.wrap ((n : Int) - q) = (n : Int) - q := wrap_i64 (by omega) (by omega)
  have f2 : decide ((n : Int) - q < 0) = false := by simp; omega
  have f3 : IntKind.i64.wrap (q : Int) = (q : Int) := wrap_i64 (by omega) (by omega)
  clear hs
  go_enter Try.func71, Try.ntmps71
  go_wp2_with fail
  refine (rready_any g A n c q 0 w hx hg).mono ?_
  rw [HS.out]
  rintro e' w1 ⟨rfl, hx1, ho1⟩
  have hg1 := Nat.lt_of_lt_of_le hg ho1.size
  clear hx hg
  go_wp2_with fail
  refine region_can [0, 1, 2, 3, 4, 5, 6, 7, 8, 9, 10, 11] [] (by kernel_rfl) (by kernel_rfl) (by simp) (by kernel_rfl) (fun _ _ d _ _ h => by cases d <;> exact h) (fun wd hd hds => ?_)
  have ho2 : Off g w.heap.size w wd := ho1.trans ((Off.of hd).mono ho1.size)
  have BXD := Lib.hid (Bxr.below hx1 hd hg1)
  have hgd : g < wd.heap.size := by omega
  clear hd hds ho1 hx1 hg1
  repeat ((first | (refine can_pure (v := ?_) rfl rfl rfl ?_ ?_; rotate_left; · (intro w'; go_simp; try with_reducible rfl)) | (refine can_skip rfl rfl rfl ?_) | (refine can_read rfl rfl rfl (g + 1) (by omega) ?_ ?_ ?_; rotate_left; · (intro w' hb; obtain ⟨⟨z0, z1, z2⟩, _, _, _⟩ := Bxr.below BXD.out hb (by omega); go_simp; try with_reducible rfl))); simp only [Act.put, List.setIfInBounds_toArray, List.set_cons_zero, List.set_cons_succ])
  refine can_done ?_
  obtain ⟨⟨r0, r1, r2⟩, k0, k1, k2⟩ := BXD.out
  go_upto_region 8 with fail
  have hrd := hr.off ho2 hBw hB
  have hsw := ho2.size
  clear r0 r1 r2 k0 k1 k2
  refine region_can [1, 2, 3, 4, 5, 6, 7, 8, 9, 10, 11, 12, 13, 14, 15, 0, 16, 17] [0, 16] (by kernel_rfl) (by kernel_rfl) (by simp) (by kernel_rfl) (fun _ _ d _ _ h => by cases d <;> exact h) (fun we he hes => ?_)
  have BXE := Lib.hid (Bxr.below BXD.out he hgd)
  have hoe : Off g w.heap.size w we := ho2.trans ((Off.of he).mono hsw)
  have hre := hrd.below' he (by omega)
  have hze : w.heap.size ≤ we.heap.size := by omega
  have hge : g < we.heap.size := by omega
  clear he hes ho2 BXD
  repeat ((first | (refine can_pure (v := ?_) rfl rfl rfl ?_ ?_; rotate_left; · (intro w'; go_simp; try with_reducible rfl)) | (refine can_skip rfl rfl rfl ?_) | (refine can_read rfl rfl rfl (g + 1) (by omega) ?_ ?_ ?_; rotate_left; · (intro w' hb; obtain ⟨⟨z0, z1, z2⟩, _, _, _⟩ := Bxr.below BXE.out hb (by omega); go_simp; try with_reducible rfl))); simp only [Act.put, List.setIfInBounds_toArray, List.set_cons_zero, List.set_cons_succ])
  refine can_cut2 (p := q) (q := q) rfl rfl rfl rfl rfl rfl hre (by omega) (by omega) (by omega) (fun A1 hr1 => ?_)
  simp only [Act.put, List.setIfInBounds_toArray, List.set_cons_zero, List.set_cons_succ]
  refine can_make rfl rfl we.heap.size (by omega) (fun Q1 hQ1 => ?_)
  go_wp2_with fail
  refine hQ1 _ _ ((Below.refl _ _).alloc (Nat.le_refl _) _) ?_
  refine can_make rfl rfl we.heap.size (Nat.le_refl _) (fun Q1 hQ1 => ?_)
  go_wp2_with (at_builtin; refine wpl_app rfl rfl (Own.lit we we.heap.size [] (Nat.le_refl _) (by simp)) rfl (hr1.alloc (by omega) _) (by omega) (by simp) ?_; intro A2 c2 w2 h2o h2b; simp only [List.nil_append] at h2o)
  refine hQ1 _ _ h2b ?_
  have hb2 := ((Below.refl we.heap.size we).al (Nat.le_refl _) (.cells #[] 5)).trans h2b
  have ho3 : Off g w.heap.size w w2 := hoe.trans ((Off.of hb2).mono hze)
  have hm : 0 + (q - q) = 0 := by omega
  rw [hm] at h2o ⊢
  have hx2 := Bxr.below BXE.out hb2 hge
  have hg2 : g < w2.heap.size := by have := hb2.size; omega
  have HYY : Rd w2 w2.heap.size A2 0 ((xs.drop q).take 0) := by
    have h := h2o.rd
    rwa [List.drop_take, show q - q = 0 by omega] at h
  have hcap := h2o.cap
  have HBK := h2o.block
  clear h2b hb2 hoe h2o hr1 hrd hre hm BXE
  repeat ((first | (refine can_pure (v := ?_) rfl rfl rfl ?_ ?_; rotate_left; · (intro w'; go_simp; try with_reducible rfl)) | (refine can_skip rfl rfl rfl ?_)); simp only [Act.put, List.setIfInBounds_toArray, List.set_cons_zero, List.set_cons_succ])
  refine can_done ?_
  obtain ⟨⟨r0, r1, r2⟩, k0, k1, k2⟩ := hx2
  go_wp2
  go_ret
  exact ⟨A2, 0, c2, rfl, hcap, Rd.setOther HYY (fun _ ad h => by have := HBK ad h; omega) _ _ |>.more (by simp), fun _ ad h => by have := HBK ad h; omega, ⟨⟨by go_simp, by go_simp, by go_simp⟩, by go_simp, by go_simp, by go_simp⟩, by repeat' (first | with_reducible exact Off.refl _ _ _ | with_reducible assumption | with_reducible refine Off.drew ?_ | with_reducible refine Off.setAt ?_ _ _ | with_reducible refine Off.alloc ?_ (by simp <;> omega) _)⟩
theorem rfixed_any (g : Nat) (A : Option Addr) (n c B : Nat) (a e k : Int) (xs : List UInt8) (w : World) (hx : Bxr w g A n c a e) (hg : g < w.heap.size) (hr : Rd w B A n xs) (hB : B ≤ g) (hnc : n ≤ c) (hn : n ≤ 1000000000) :
    Calls Try.prog 71 #[.pointer (some ⟨g, 0, none⟩), .int .i64 k] w fun e' w' => ∃ A' l c', e' = .returned (.slice A' l c') ∧ l ≤ c' ∧ Rd w' w'.heap.size A' l (fxY n xs a e k) ∧ (0 < l → ∀ ad, A' = some ad → w.heap.size ≤ ad.block) ∧ Bxr w' g A n c (fxT n a e k) (nxE n a e k) ∧ Off g w.heap.size w w' := by
  unfold fxT fxY
  by_cases hs : stE n a e = 0
  · obtain ⟨rfl, h1, h2⟩ := stE_zero hs
    obtain ⟨q, rfl⟩ := Int.eq_ofNat_of_zero_le h1
    by_cases hk : (n : Int) - q < max k 0
    · have hE : nxE n q 0 k = 10 := by unfold nxE; rw [if_neg (by simp [hs]), if_pos hk]
      rw [hE, if_neg (by omega), if_neg (by omega)]
      exact rfixed_short g A n c q k w hx hg hn (by omega) hk
    · have hE : nxE n q 0 k = 0 := by unfold nxE; rw [if_neg (by simp [hs]), if_neg hk]
      rw [hE, if_pos rfl, if_pos rfl, Int.toNat_natCast]
      by_cases h0 : k < 0
      · rw [show max k 0 = 0 by omega, Int.add_zero]
        exact rfixed_ok0 g A n c B q k xs w hx hg hr hB hnc hn (by omega) h0
      · obtain ⟨m, rfl⟩ := Int.eq_ofNat_of_zero_le (show 0 ≤ k by omega)
        rw [show max (m : Int) 0 = m by omega, Int.toNat_natCast]
        exact rfixed_okm g A n c B q m xs w hx hg hr hB hnc hn (by omega)
  · have hE : nxE n a e k = stE n a e := by unfold nxE; rw [if_pos hs]
    rw [hE, if_neg hs, if_neg hs]
    exact rfixed_no g A n c a e k w hx hg hs

theorem ln_all {most last n : Nat} {xs : List UInt8} {a e : Int} (h : stE n a e = 0) (hl : xs.length = n) : lnE most last n xs a e = Vr.tkE most last xs a ∧ lnN most last n xs a e = Vr.tkN most last xs a ∧ lnT most last n xs a e = Vr.tkTo most last xs a := by
  have hE : lnE most last n xs a e = Vr.tkE most last xs a := by unfold lnE; rw [if_neg (by simp [h])]
  obtain ⟨rfl, h1, h2⟩ := stE_zero h
  obtain ⟨q, rfl⟩ := Int.eq_ofNat_of_zero_le h1
  refine ⟨hE, ?_⟩
  unfold lnN lnT
  rw [hE]
  by_cases h0 : Vr.tkE most last xs (q : Int) = 0
  · rw [if_pos h0, if_pos h0]; exact ⟨rfl, rfl⟩
  · rw [if_neg h0, if_neg h0]
    rw [Vr.tkE_in (by omega)] at h0
    rw [Vr.tkN_in (by omega), Vr.tkTo_in (by omega)]
    obtain ⟨b1, b2⟩ := Vr.tk_bad most last (xs.drop q) 0 0 (by omega)
    rw [b1, b2]
    exact ⟨rfl, by simp⟩

set_option maxRecDepth 100000 in
set_option maxHeartbeats 4000000 in
theorem rnumber_any (most last : Nat) (g : Nat) (A : Option Addr) (n c B : Nat) (a e : Int) (xs : List UInt8) (w : World) (hx : Bxr w g A n c a e) (hg : g < w.heap.size) (hr : Rd w B A n xs) (hB : B ≤ g) (hnc : n ≤ c) (hn : n ≤ 1000000000) (hm1 : 2 ≤ most) (hm : most ≤ 9 ∨ most = 10 ∧ last ≤ 1) (hlast : last < 128) :
    Calls Try.prog 83 #[.pointer (some ⟨g, 0, none⟩), .int .i64 (most : Int), .int .u8 (last : Int)] w fun e' w' => e' = .returned (.int .i64 (lnN most last n xs a e)) ∧ Bxr w' g A n c (lnT most last n xs a e) (lnE most last n xs a e) ∧ Off g w.heap.size w w' := by
  have hc := rready_any g A n c a e w hx hg
  by_cases hs : stE n a e = 0
  · have htk := fun w1 (hr1 : Rd w1 B A n xs) => Vr.reftake_all A n c B a xs most last w1 hr1 hn hm1 hm hlast
    obtain ⟨e1, e2, e3⟩ := ln_all (most := most) (last := last) hs hr.len
    rw [e1, e2, e3]
    rw [hs] at hc
    clear e1 e2 e3 hs
    generalize Vr.tkN most last xs a = N at *
    generalize Vr.tkTo most last xs a = T at *
    generalize Vr.tkE most last xs a = E at *
    go_enter Try.func83, Try.ntmps83
    go_wp2_with fail
    refine hc.mono ?_
    rintro e' w1 ⟨rfl, hx1, ho1⟩
    have hg1 := Nat.lt_of_lt_of_le hg ho1.size
    have hr1 := hr.off ho1 (by omega) hB
    clear hx hc
    go_wp2_with fail
    refine region_can [0, 1, 2, 3, 4, 5, 6, 7, 8, 9, 10, 11, 12, 13, 14, 15, 16, 17] [10] (by kernel_rfl) (by kernel_rfl) (by simp) (by kernel_rfl) (fun _ _ d _ _ h => by cases d <;> exact h) (fun wd hd hds => ?_)
    have ho2 : Off g w.heap.size w wd := ho1.trans ((Off.of hd).mono ho1.size)
    have BXD := Lib.hid (Bxr.below hx1 hd hg1)
    have hgd : g < wd.heap.size := by omega
    have hr2 := hr1.below' hd (by omega)
    clear hd hds ho1 hx1 hg1 hr1
    repeat ((first | (refine can_pure (v := ?_) rfl rfl rfl ?_ ?_; rotate_left; · (intro w'; go_simp; try with_reducible rfl)) | (refine can_skip rfl rfl rfl ?_) | (refine can_read rfl rfl rfl (g + 1) (by omega) ?_ ?_ ?_; rotate_left; · (intro w' hb; obtain ⟨⟨z0, z1, z2⟩, _, _, _⟩ := Bxr.below BXD.out hb (by omega); go_simp; try with_reducible rfl))); simp only [Act.put, List.setIfInBounds_toArray, List.set_cons_zero, List.set_cons_succ])
    refine can_make rfl rfl wd.heap.size (by omega) (fun Q1 hQ1 => ?_)
    go_wp2_with fail
    refine (htk wd hr2).mono ?_
    rintro e' w2 ⟨rfl, rfl⟩
    go_wp2_with fail
    refine hQ1 _ _ (Below.refl _ _) ?_
    clear htk
    repeat ((first | (refine can_pure (v := ?_) rfl rfl rfl ?_ ?_; rotate_left; · (intro w'; go_simp; try with_reducible rfl)) | (refine can_skip rfl rfl rfl ?_)); simp only [Act.put, List.setIfInBounds_toArray, List.set_cons_zero, List.set_cons_succ])
    refine can_done ?_
    obtain ⟨⟨r0, r1, r2⟩, k0, k1, k2⟩ := BXD.out
    go_wp2
    go_ret
    exact ⟨rfl, ⟨⟨by go_simp, by go_simp, by go_simp⟩, by go_simp, by go_simp, by go_simp⟩, by repeat' (first | with_reducible exact Off.refl _ _ _ | with_reducible assumption | with_reducible refine Off.drew ?_ | with_reducible refine Off.setAt ?_ _ _ | with_reducible refine Off.alloc ?_ (by simp <;> omega) _)⟩
  · have hE : lnE most last n xs a e = stE n a e := by unfold lnE; rw [if_pos hs]
    unfold lnN lnT
    rw [hE, if_neg hs, if_neg hs]
    generalize stE n a e = E at *
    have h3 : decide (E = 0) = false := by simp [hs]
    rw [h3] at hc
    clear hE h3
    go_enter Try.func83, Try.ntmps83
    go_wp2_with fail
    refine hc.mono ?_
    rintro e' w1 ⟨rfl, hx1, ho1⟩
    go_wp2
    go_ret
    exact ⟨rfl, hx1, ho1⟩
set_option maxRecDepth 100000 in
set_option maxHeartbeats 4000000 in
theorem rint_any (g : Nat) (A : Option Addr) (n c B : Nat) (a e : Int) (xs : List UInt8) (w : World) (hx : Bxr w g A n c a e) (hg : g < w.heap.size) (hr : Rd w B A n xs) (hB : B ≤ g) (hnc : n ≤ c) (hn : n ≤ 1000000000) :
    Calls Try.prog 67 #[.pointer (some ⟨g, 0, none⟩)] w fun e' w' => e' = .returned (.int .i64 (lnN 5 15 n xs a e)) ∧ Bxr w' g A n c (lnT 5 15 n xs a e) (lnE 5 15 n xs a e) ∧ Off g w.heap.size w w' := by
  have hc := rnumber_any 5 15 g A n c B a e xs w hx hg hr hB hnc hn (by omega) (by omega) (by omega)
  generalize lnN 5 15 n xs a e = N at *
  generalize lnT 5 15 n xs a e = T at *
  generalize lnE 5 15 n xs a e = E at *
  go_enter Try.func67, Try.ntmps67
  go_wp2_with fail
  refine hc.mono ?_
  rintro e' w1 ⟨rfl, hx1, ho1⟩
  go_wp2
  go_ret
  exact ⟨rfl, hx1, ho1⟩
set_option maxRecDepth 100000 in
set_option maxHeartbeats 4000000 in
theorem rlong_any (g : Nat) (A : Option Addr) (n c B : Nat) (a e : Int) (xs : List UInt8) (w : World) (hx : Bxr w g A n c a e) (hg : g < w.heap.size) (hr : Rd w B A n xs) (hB : B ≤ g) (hnc : n ≤ c) (hn : n ≤ 1000000000) :
    Calls Try.prog 68 #[.pointer (some ⟨g, 0, none⟩)] w fun e' w' => e' = .returned (.int .i64 (lnN 10 1 n xs a e)) ∧ Bxr w' g A n c (lnT 10 1 n xs a e) (lnE 10 1 n xs a e) ∧ Off g w.heap.size w w' := by
  have hc := rnumber_any 10 1 g A n c B a e xs w hx hg hr hB hnc hn (by omega) (by omega) (by omega)
  generalize lnN 10 1 n xs a e = N at *
  generalize lnT 10 1 n xs a e = T at *
  generalize lnE 10 1 n xs a e = E at *
  go_enter Try.func68, Try.ntmps68
  go_wp2_with fail
  refine hc.mono ?_
  rintro e' w1 ⟨rfl, hx1, ho1⟩
  go_wp2
  go_ret
  exact ⟨rfl, hx1, ho1⟩
set_option maxRecDepth 100000 in
set_option maxHeartbeats 4000000 in
theorem rend_any (g : Nat) (A : Option Addr) (n c : Nat) (a e : Int) (w : World) (hx : Bxr w g A n c a e) (hg : g < w.heap.size) :
    Calls Try.prog 44 #[.pointer (some ⟨g, 0, none⟩)] w fun e' w' => e' = .returned (.int .i64 (enE n a e)) ∧ Off g w.heap.size w w' := by
  have hc := fun w1 (h1 : Bxr w1 g A n c a e) h2 => rready_any g A n c a e w1 h1 h2
  unfold enE
  by_cases hs : stE n a e = 0
  · rw [if_neg (by simp [hs])]
    rw [hs] at hc
    have HC := Lib.hid hc
    by_cases h : a < n
    · rw [if_pos h]
      clear hc hs
      go_enter Try.func44, Try.ntmps44
      go_wp2_with fail
      refine region_can [0, 1, 2, 3, 4, 5, 6, 7, 8, 9, 10, 11, 12, 13] [1] (by kernel_rfl) (by kernel_rfl) (by simp) (by kernel_rfl) (fun _ _ d _ _ h => by cases d <;> exact h) (fun wd hd hds => ?_)
      have ho2 : Off g w.heap.size w wd := Off.of hd
      have hcc := HC.out wd (hx.below hd hg) (by omega)
      have hgd : g < wd.heap.size := by omega
      have hzz : w.heap.size ≤ wd.heap.size := by omega
      clear hd hds hx hg
      repeat ((first | (refine can_pure (v := ?_) rfl rfl rfl ?_ ?_; rotate_left; · (intro w'; go_simp; try with_reducible rfl)) | (refine can_skip rfl rfl rfl ?_)); simp only [Act.put, List.setIfInBounds_toArray, List.set_cons_zero, List.set_cons_succ])
      refine can_make rfl rfl 0 (by omega) (fun Q1 hQ1 => ?_)
      go_wp2_with fail
      refine hcc.mono ?_
      rintro e' w1 ⟨rfl, hx1, ho1⟩
      go_wp2_with fail
      refine hQ1 _ _ (ho1.below (Nat.zero_le _) (Nat.zero_le _)) ?_
      have ho3 := ho2.trans (ho1.mono hzz)
      have BXD := Lib.hid hx1
      clear hcc HC hQ1
      repeat ((first | (refine can_pure (v := ?_) rfl rfl rfl ?_ ?_; rotate_left; · (intro w'; go_simp; try with_reducible rfl)) | (refine can_skip rfl rfl rfl ?_) | (refine can_read rfl rfl rfl (g + 1) (by omega) ?_ ?_ ?_; rotate_left; · (intro w' hb; obtain ⟨⟨z0, z1, z2⟩, _, _, _⟩ := Bxr.below BXD.out hb (by omega); go_simp; try with_reducible rfl))); simp only [Act.put, List.setIfInBounds_toArray, List.set_cons_zero, List.set_cons_succ])
      refine can_done ?_
      obtain ⟨⟨r0, r1, r2⟩, k0, k1, k2⟩ := BXD.out
      go_wp2
      go_ret
      exact ⟨rfl, ho3⟩
    · rw [if_neg h]
      clear hc hs
      go_enter Try.func44, Try.ntmps44
      go_wp2_with fail
      refine region_can [0, 1, 2, 3, 4, 5, 6, 7, 8, 9, 10, 11, 12, 13] [1] (by kernel_rfl) (by kernel_rfl) (by simp) (by kernel_rfl) (fun _ _ d _ _ h => by cases d <;> exact h) (fun wd hd hds => ?_)
      have ho2 : Off g w.heap.size w wd := Off.of hd
      have hcc := HC.out wd (hx.below hd hg) (by omega)
      have hgd : g < wd.heap.size := by omega
      have hzz : w.heap.size ≤ wd.heap.size := by omega
      clear hd hds hx hg
      repeat ((first | (refine can_pure (v := ?_) rfl rfl rfl ?_ ?_; rotate_left; · (intro w'; go_simp; try with_reducible rfl)) | (refine can_skip rfl rfl rfl ?_)); simp only [Act.put, List.setIfInBounds_toArray, List.set_cons_zero, List.set_cons_succ])
      refine can_make rfl rfl 0 (by omega) (fun Q1 hQ1 => ?_)
      go_wp2_with fail
      refine hcc.mono ?_
      rintro e' w1 ⟨rfl, hx1, ho1⟩
      go_wp2_with fail
      refine hQ1 _ _ (ho1.below (Nat.zero_le _) (Nat.zero_le _)) ?_
      have ho3 := ho2.trans (ho1.mono hzz)
      have BXD := Lib.hid hx1
      clear hcc HC hQ1
      repeat ((first | (refine can_pure (v := ?_) rfl rfl rfl ?_ ?_; rotate_left; · (intro w'; go_simp; try with_reducible rfl)) | (refine can_skip rfl rfl rfl ?_) | (refine can_read rfl rfl rfl (g + 1) (by omega) ?_ ?_ ?_; rotate_left; · (intro w' hb; obtain ⟨⟨z0, z1, z2⟩, _, _, _⟩ := Bxr.below BXD.out hb (by omega); go_simp; try with_reducible rfl))); simp only [Act.put, List.setIfInBounds_toArray, List.set_cons_zero, List.set_cons_succ])
      refine can_done ?_
      obtain ⟨⟨r0, r1, r2⟩, k0, k1, k2⟩ := BXD.out
      go_wp2
      go_ret
      exact ⟨rfl, ho3⟩
  · rw [if_pos hs]
    generalize stE n a e = E at *
    have h3 : decide (E = 0) = false := by simp [hs]
    rw [h3] at hc
    have HC := Lib.hid hc
    clear hc h3
    go_enter Try.func44, Try.ntmps44
    go_wp2_with fail
    refine region_can [0, 1, 2, 3, 4, 5, 6, 7, 8, 9, 10, 11, 12, 13] [1] (by kernel_rfl) (by kernel_rfl) (by simp) (by kernel_rfl) (fun _ _ d _ _ h => by cases d <;> exact h) (fun wd hd hds => ?_)
    have ho2 : Off g w.heap.size w wd := Off.of hd
    have hcc := HC.out wd (hx.below hd hg) (by omega)
    have hgd : g < wd.heap.size := by omega
    have hzz : w.heap.size ≤ wd.heap.size := by omega
    clear hd hds hx hg
    repeat ((first | (refine can_pure (v := ?_) rfl rfl rfl ?_ ?_; rotate_left; · (intro w'; go_simp; try with_reducible rfl)) | (refine can_skip rfl rfl rfl ?_)); simp only [Act.put, List.setIfInBounds_toArray, List.set_cons_zero, List.set_cons_succ])
    refine can_make rfl rfl 0 (by omega) (fun Q1 hQ1 => ?_)
    go_wp2_with fail
    refine hcc.mono ?_
    rintro e' w1 ⟨rfl, hx1, ho1⟩
    go_wp2_with fail
    refine hQ1 _ _ (ho1.below (Nat.zero_le _) (Nat.zero_le _)) ?_
    have ho3 := ho2.trans (ho1.mono hzz)
    have BXD := Lib.hid hx1
    clear hcc HC hQ1
    repeat ((first | (refine can_pure (v := ?_) rfl rfl rfl ?_ ?_; rotate_left; · (intro w'; go_simp; try with_reducible rfl)) | (refine can_skip rfl rfl rfl ?_) | (refine can_read rfl rfl rfl (g + 1) (by omega) ?_ ?_ ?_; rotate_left; · (intro w' hb; obtain ⟨⟨z0, z1, z2⟩, _, _, _⟩ := Bxr.below BXD.out hb (by omega); go_simp; try with_reducible rfl))); simp only [Act.put, List.setIfInBounds_toArray, List.set_cons_zero, List.set_cons_succ])
    refine can_done ?_
    obtain ⟨⟨r0, r1, r2⟩, k0, k1, k2⟩ := BXD.out
    go_wp2
    go_ret
    exact ⟨rfl, ho3⟩

end Go.Proofs.Ytodgnlhakafhoaa.Wr
