/- The layer wire: 'does': a call on both sides. Printed by wip/refgen3.py. -/
import Derived.Test.YtodgnlhakafhoaaWirS
import Derived.Deep.CutBlock
namespace Go.Proofs.Ytodgnlhakafhoaa.Wr
open Go.ChangeShapes Go.WideShapes Go.ChangeAt Go.RowKit
open Num Mem Can

def dsT (k s : Int) (n : Nat) (xs : List UInt8) (a e : Int) : Int :=
  if k = 0 then blT n xs a e else if k = 1 then lnT 5 15 n xs a e else if k = 2 then lnT 10 1 n xs a e else if k = 3 then fxT n a e (min s 8) else if k = 4 then fxT n a e s else if k = 5 then byT n xs a e else if k = 6 then txT n xs a e else a
def dsE (k s : Int) (n : Nat) (xs : List UInt8) (a e : Int) : Int :=
  if k = 0 then blE n xs a e else if k = 1 then lnE 5 15 n xs a e else if k = 2 then lnE 10 1 n xs a e else if k = 3 then nxE n a e (min s 8) else if k = 4 then nxE n a e s else if k = 5 then byE n xs a e else if k = 6 then txE n xs a e else e
set_option maxRecDepth 100000 in
set_option maxHeartbeats 4000000 in
theorem does_k0 (g : Nat) (A : Option Addr) (n c B : Nat) (a e s : Int) (xs : List UInt8) (w : World) (hx : Bxr w g A n c a e) (hg : g < w.heap.size) (hr : Rd w B A n xs) (hB : B ≤ g) (hnc : n ≤ c) (hn : n ≤ 1000000) :
    Calls Try.prog 42 #[.agg #[.int .i64 0, .int .i64 s], .agg #[.slice A n c, .int .i64 a, .int .i64 e], .pointer (some ⟨g, 0, none⟩)] w fun e' w' => e' = .returned (.tuple #[.agg #[.slice A n c, .int .i64 (blT n xs a e), .int .i64 (blE n xs a e)], .bool true]) ∧ Bxr w' g A n c (blT n xs a e) (blE n xs a e) ∧ Off g w.heap.size w w' := by
  have hBw : B ≤ w.heap.size := by omega
  have hp := fun w1 (hw : Below w.heap.size w w1) => bool_any A n c B a e xs w1 (hr.below' hw hBw) (by have := hw.size; omega) hnc (by omega)
  have hq := fun w1 h1 h2 h3 => rbool_any g A n c B a e xs w1 h1 h2 h3 hB hnc (by omega)
  generalize blN n xs a e = N at *
  generalize blT n xs a e = T at *
  generalize blE n xs a e = E at *
  have HP := Lib.hid hp
  have HQ := Lib.hid hq
  clear hp hq
  go_enter Try.func42, Try.ntmps42
  go_wp2_with fail
  refine (HP.out _ (by repeat' (first | with_reducible exact Below.refl _ _ | with_reducible assumption | with_reducible refine Below.drew ?_ | with_reducible refine Below.setCell ?_ (by simp <;> omega) _ | with_reducible refine Below.alloc ?_ (by simp <;> omega) _))).mono ?_
  rintro e' w2 ⟨rfl, hb2⟩
  have hbw3 : Below w.heap.size w (((w.alloc (.cells #[.int .i64 0, .int .i64 s] 67)).alloc (.cells #[.slice A n c, .int .i64 a, .int .i64 e] 60)).alloc (.cells #[.slice none 0 0, .int .i64 0, .int .i64 0] 60)) := (((Below.refl _ _).al (Nat.le_refl _) _).al (Nat.le_refl _) _).al (Nat.le_refl _) _
  have x0 : Bxr (((w.alloc (.cells #[.int .i64 0, .int .i64 s] 67)).alloc (.cells #[.slice A n c, .int .i64 a, .int .i64 e] 60)).alloc (.cells #[.slice none 0 0, .int .i64 0, .int .i64 0] 60)) (w.heap.size + 1 + 1) none 0 0 0 0 := ⟨⟨by go_simp, by go_simp, by go_simp⟩, by go_simp, by go_simp, by go_simp⟩
  have x2 := x0.below hb2 (by simp)
  have xg2 := (hx.below hbw3 hg).below hb2 (by simp; omega)
  have ask2 : w2.cell? ⟨w.heap.size, 1, none⟩ = some (.int .i64 s) := (hb2.cell (by simp only [World.size_alloc]; omega)).trans (by go_simp)
  have hbz : Below w.heap.size w w2 := hbw3.thn (Nat.le_refl _) hb2
  have rd2 := hr.below' hbz hBw
  have hsz := hb2.size
  simp only [World.size_alloc] at hsz
  clear x0 hbw3 hb2 hr hx HP
  go_upto_region 4 with fail
  have BF : Bxr (w2.alloc (.cells #[.slice A n c, .int .i64 T, .int .i64 E] 60)) w2.heap.size A n c T E := ⟨⟨by go_simp, by go_simp, by go_simp⟩, by go_simp, by go_simp, by go_simp⟩
  have hbv := (Below.refl w2.heap.size w2).al (Nat.le_refl _) (.cells #[.slice A n c, .int .i64 T, .int .i64 E] 60)
  have BS := x2.below hbv (by omega)
  have BG := xg2.below hbv (by omega)
  have RD := rd2.below' hbv (by omega)
  have ASK := (hbv.cell (p := ⟨w.heap.size, 1, none⟩) (by simp only; omega)).trans ask2
  have hbz3 := hbz.thn (by omega) hbv
  have hsf : w2.heap.size < (w2.alloc (.cells #[.slice A n c, .int .i64 T, .int .i64 E] 60)).heap.size := by simp

  generalize (w2.alloc (.cells #[.slice A n c, .int .i64 T, .int .i64 E] 60)) = w3 at *
  obtain ⟨f, hf⟩ : ∃ f, f = w2.heap.size := ⟨_, rfl⟩
  rw [← hf] at BF hsf hsz ⊢
  clear hbv hf x2 xg2 rd2 ask2 hbz
  refine region_off (X := fun k => k = g ∨ k = w.heap.size + 1 + 1) (Plan.of [0, 1, 2, 3, 4, 5, 6] .nil) [3, 5] (by kernel_rfl) (by kernel_rfl) (by decide +kernel) (by kernel_rfl) (fun _ _ d _ _ h => by cases d <;> exact h) (fun wd hd hds => ?_)
  have BFD := Lib.hid (BF.below hd hsf)
  have BSD := Lib.hid (BS.below hd (by omega))
  have BGD := Lib.hid (BG.below hd (by omega))
  have RDD := RD.below' hd (by omega)
  have ASKD := Lib.hid ((hd.cell (p := ⟨w.heap.size, 1, none⟩) (by simp only; omega)).trans ASK)
  have hod : Off g w.heap.size w wd := Off.of (hbz3.thn (by omega) hd)
  have hfd : f < wd.heap.size := by omega

  have HNF := Lib.hid (show ¬ (fun k => k = g ∨ k = w.heap.size + 1 + 1) f by simp only; omega)
  have HNA := Lib.hid (show ¬ (fun k => k = g ∨ k = w.heap.size + 1 + 1) w.heap.size by simp only; omega)
  clear BF BS BG RD ASK hbz3 hsf hd hds
  repeat ((first | (refine off_pure (v := ?_) rfl rfl rfl ?_ ?_; rotate_left; · (intro w'; go_simp; try with_reducible rfl)) | (refine off_read rfl rfl rfl (f + 1) (by omega) ?_ ?_ ?_; rotate_left; · (intro w' hb; obtain ⟨⟨z0, z1, z2⟩, _, _, _⟩ := Bxr.offX BFD.out hb (by omega) HNF.out; have z3 := (hb.cell (p := ⟨w.heap.size, 1, none⟩) (by simp only; omega) HNA.out).trans ASKD.out; clear hb; go_simp; try with_reducible rfl))); simp only [Act.put, List.setIfInBounds_toArray, List.set_cons_zero, List.set_cons_succ])
  refine off_make rfl rfl (f + 1) (by omega) (fun Q1 hQ1 => ?_)
  go_wp2_with fail
  refine (HQ.out wd BGD.out (by omega) RDD).mono ?_
  rintro e' w4 ⟨rfl, hx4, ho4⟩
  go_wp2_with fail
  refine hQ1 _ _ (OffX.off (ho4.mono (by omega)) (.inl rfl)) ?_
  have hs4 := ho4.size
  have BS4 := BSD.out.off ho4 (by omega) (by omega)
  have ho5 := hod.trans (ho4.mono (by omega))
  repeat ((refine off_pure (v := ?_) rfl rfl rfl ?_ ?_; rotate_left; · (intro w'; go_simp; try with_reducible rfl)); simp only [Act.put, List.setIfInBounds_toArray, List.set_cons_zero, List.set_cons_succ])
  obtain ⟨⟨q0, q1, q2⟩, p0, p1, p2⟩ := BS4
  refine off_make rfl rfl (f + 1) (Nat.le_refl _) (fun Q1 hQ1 => ?_)
  go_wp2_with fail
  refine hQ1 _ _ ((((OffX.refl _ _ _).setAt (.inr rfl) 0 _).setAt (.inr rfl) 1 _).setAt (.inr rfl) 2 _) ?_
  repeat ((refine off_pure (v := ?_) rfl rfl rfl ?_ ?_; rotate_left; · (intro w'; go_simp; try with_reducible rfl)); simp only [Act.put, List.setIfInBounds_toArray, List.set_cons_zero, List.set_cons_succ])
  refine off_done ?_
  clear hQ1 BFD BSD BGD ASKD HNF HNA HQ hod
  have hgs : ¬ g = w.heap.size + 1 + 1 := by omega
  have hgs' : ¬ w.heap.size + 1 + 1 = g := by omega
  obtain ⟨⟨r0, r1, r2⟩, k0, k1, k2⟩ := hx4
  go_wp2
  refine bodyPost_ret (ret_ct (A := A) (n := n) (c := c) (a := T) (e := E) rfl rfl ⟨by go_simp, by go_simp, by go_simp⟩) rfl ⟨by simp [rdv], ⟨⟨by go_simp, by go_simp, by go_simp⟩, by go_simp, by go_simp, by go_simp⟩, by repeat' (first | with_reducible exact Off.refl _ _ _ | with_reducible assumption | with_reducible refine Off.drew ?_ | with_reducible refine Off.setNew ?_ (by simp only; omega) _ | with_reducible refine Off.alloc ?_ (by simp <;> omega) _)⟩
set_option maxRecDepth 100000 in
set_option maxHeartbeats 4000000 in
theorem does_k1 (g : Nat) (A : Option Addr) (n c B : Nat) (a e s : Int) (xs : List UInt8) (w : World) (hx : Bxr w g A n c a e) (hg : g < w.heap.size) (hr : Rd w B A n xs) (hB : B ≤ g) (hnc : n ≤ c) (hn : n ≤ 1000000) :
    Calls Try.prog 42 #[.agg #[.int .i64 1, .int .i64 s], .agg #[.slice A n c, .int .i64 a, .int .i64 e], .pointer (some ⟨g, 0, none⟩)] w fun e' w' => e' = .returned (.tuple #[.agg #[.slice A n c, .int .i64 (lnT 5 15 n xs a e), .int .i64 (lnE 5 15 n xs a e)], .bool true]) ∧ Bxr w' g A n c (lnT 5 15 n xs a e) (lnE 5 15 n xs a e) ∧ Off g w.heap.size w w' := by
  have hBw : B ≤ w.heap.size := by omega
  have hp := fun w1 (hw : Below w.heap.size w w1) => int_any A n c B a e xs w1 (hr.below' hw hBw) (by have := hw.size; omega) hnc (by omega)
  have hq := fun w1 h1 h2 h3 => rint_any g A n c B a e xs w1 h1 h2 h3 hB hnc (by omega)
  generalize lnN 5 15 n xs a e = N at *
  generalize lnT 5 15 n xs a e = T at *
  generalize lnE 5 15 n xs a e = E at *
  have HP := Lib.hid hp
  have HQ := Lib.hid hq
  clear hp hq
  go_enter Try.func42, Try.ntmps42
  go_wp2_with fail
  refine (HP.out _ (by repeat' (first | with_reducible exact Below.refl _ _ | with_reducible assumption | with_reducible refine Below.drew ?_ | with_reducible refine Below.setCell ?_ (by simp <;> omega) _ | with_reducible refine Below.alloc ?_ (by simp <;> omega) _))).mono ?_
  rintro e' w2 ⟨rfl, hb2⟩
  have hbw3 : Below w.heap.size w (((w.alloc (.cells #[.int .i64 1, .int .i64 s] 67)).alloc (.cells #[.slice A n c, .int .i64 a, .int .i64 e] 60)).alloc (.cells #[.slice none 0 0, .int .i64 0, .int .i64 0] 60)) := (((Below.refl _ _).al (Nat.le_refl _) _).al (Nat.le_refl _) _).al (Nat.le_refl _) _
  have x0 : Bxr (((w.alloc (.cells #[.int .i64 1, .int .i64 s] 67)).alloc (.cells #[.slice A n c, .int .i64 a, .int .i64 e] 60)).alloc (.cells #[.slice none 0 0, .int .i64 0, .int .i64 0] 60)) (w.heap.size + 1 + 1) none 0 0 0 0 := ⟨⟨by go_simp, by go_simp, by go_simp⟩, by go_simp, by go_simp, by go_simp⟩
  have x2 := x0.below hb2 (by simp)
  have xg2 := (hx.below hbw3 hg).below hb2 (by simp; omega)
  have ask2 : w2.cell? ⟨w.heap.size, 1, none⟩ = some (.int .i64 s) := (hb2.cell (by simp only [World.size_alloc]; omega)).trans (by go_simp)
  have hbz : Below w.heap.size w w2 := hbw3.thn (Nat.le_refl _) hb2
  have rd2 := hr.below' hbz hBw
  have hsz := hb2.size
  simp only [World.size_alloc] at hsz
  clear x0 hbw3 hb2 hr hx HP
  go_upto_region 7 with fail
  have BF : Bxr (w2.alloc (.cells #[.slice A n c, .int .i64 T, .int .i64 E] 60)) w2.heap.size A n c T E := ⟨⟨by go_simp, by go_simp, by go_simp⟩, by go_simp, by go_simp, by go_simp⟩
  have hbv := (Below.refl w2.heap.size w2).al (Nat.le_refl _) (.cells #[.slice A n c, .int .i64 T, .int .i64 E] 60)
  have BS := x2.below hbv (by omega)
  have BG := xg2.below hbv (by omega)
  have RD := rd2.below' hbv (by omega)
  have ASK := (hbv.cell (p := ⟨w.heap.size, 1, none⟩) (by simp only; omega)).trans ask2
  have hbz3 := hbz.thn (by omega) hbv
  have hsf : w2.heap.size < (w2.alloc (.cells #[.slice A n c, .int .i64 T, .int .i64 E] 60)).heap.size := by simp

  generalize (w2.alloc (.cells #[.slice A n c, .int .i64 T, .int .i64 E] 60)) = w3 at *
  obtain ⟨f, hf⟩ : ∃ f, f = w2.heap.size := ⟨_, rfl⟩
  rw [← hf] at BF hsf hsz ⊢
  clear hbv hf x2 xg2 rd2 ask2 hbz
  refine region_off (X := fun k => k = g ∨ k = w.heap.size + 1 + 1) (Plan.of [0, 1, 2, 3, 4, 5, 6] .nil) [3, 5] (by kernel_rfl) (by kernel_rfl) (by decide +kernel) (by kernel_rfl) (fun _ _ d _ _ h => by cases d <;> exact h) (fun wd hd hds => ?_)
  have BFD := Lib.hid (BF.below hd hsf)
  have BSD := Lib.hid (BS.below hd (by omega))
  have BGD := Lib.hid (BG.below hd (by omega))
  have RDD := RD.below' hd (by omega)
  have ASKD := Lib.hid ((hd.cell (p := ⟨w.heap.size, 1, none⟩) (by simp only; omega)).trans ASK)
  have hod : Off g w.heap.size w wd := Off.of (hbz3.thn (by omega) hd)
  have hfd : f < wd.heap.size := by omega

  have HNF := Lib.hid (show ¬ (fun k => k = g ∨ k = w.heap.size + 1 + 1) f by simp only; omega)
  have HNA := Lib.hid (show ¬ (fun k => k = g ∨ k = w.heap.size + 1 + 1) w.heap.size by simp only; omega)
  clear BF BS BG RD ASK hbz3 hsf hd hds
  repeat ((first | (refine off_pure (v := ?_) rfl rfl rfl ?_ ?_; rotate_left; · (intro w'; go_simp; try with_reducible rfl)) | (refine off_read rfl rfl rfl (f + 1) (by omega) ?_ ?_ ?_; rotate_left; · (intro w' hb; obtain ⟨⟨z0, z1, z2⟩, _, _, _⟩ := Bxr.offX BFD.out hb (by omega) HNF.out; have z3 := (hb.cell (p := ⟨w.heap.size, 1, none⟩) (by simp only; omega) HNA.out).trans ASKD.out; clear hb; go_simp; try with_reducible rfl))); simp only [Act.put, List.setIfInBounds_toArray, List.set_cons_zero, List.set_cons_succ])
  refine off_make rfl rfl (f + 1) (by omega) (fun Q1 hQ1 => ?_)
  go_wp2_with fail
  refine (HQ.out wd BGD.out (by omega) RDD).mono ?_
  rintro e' w4 ⟨rfl, hx4, ho4⟩
  go_wp2_with fail
  refine hQ1 _ _ (OffX.off (ho4.mono (by omega)) (.inl rfl)) ?_
  have hs4 := ho4.size
  have BS4 := BSD.out.off ho4 (by omega) (by omega)
  have ho5 := hod.trans (ho4.mono (by omega))
  repeat ((refine off_pure (v := ?_) rfl rfl rfl ?_ ?_; rotate_left; · (intro w'; go_simp; try with_reducible rfl)); simp only [Act.put, List.setIfInBounds_toArray, List.set_cons_zero, List.set_cons_succ])
  obtain ⟨⟨q0, q1, q2⟩, p0, p1, p2⟩ := BS4
  refine off_make rfl rfl (f + 1) (Nat.le_refl _) (fun Q1 hQ1 => ?_)
  go_wp2_with fail
  refine hQ1 _ _ ((((OffX.refl _ _ _).setAt (.inr rfl) 0 _).setAt (.inr rfl) 1 _).setAt (.inr rfl) 2 _) ?_
  repeat ((refine off_pure (v := ?_) rfl rfl rfl ?_ ?_; rotate_left; · (intro w'; go_simp; try with_reducible rfl)); simp only [Act.put, List.setIfInBounds_toArray, List.set_cons_zero, List.set_cons_succ])
  refine off_done ?_
  clear hQ1 BFD BSD BGD ASKD HNF HNA HQ hod
  have hgs : ¬ g = w.heap.size + 1 + 1 := by omega
  have hgs' : ¬ w.heap.size + 1 + 1 = g := by omega
  obtain ⟨⟨r0, r1, r2⟩, k0, k1, k2⟩ := hx4
  go_wp2
  refine bodyPost_ret (ret_ct (A := A) (n := n) (c := c) (a := T) (e := E) rfl rfl ⟨by go_simp, by go_simp, by go_simp⟩) rfl ⟨by simp [rdv], ⟨⟨by go_simp, by go_simp, by go_simp⟩, by go_simp, by go_simp, by go_simp⟩, by repeat' (first | with_reducible exact Off.refl _ _ _ | with_reducible assumption | with_reducible refine Off.drew ?_ | with_reducible refine Off.setNew ?_ (by simp only; omega) _ | with_reducible refine Off.alloc ?_ (by simp <;> omega) _)⟩
set_option maxRecDepth 100000 in
set_option maxHeartbeats 4000000 in
theorem does_k2 (g : Nat) (A : Option Addr) (n c B : Nat) (a e s : Int) (xs : List UInt8) (w : World) (hx : Bxr w g A n c a e) (hg : g < w.heap.size) (hr : Rd w B A n xs) (hB : B ≤ g) (hnc : n ≤ c) (hn : n ≤ 1000000) :
    Calls Try.prog 42 #[.agg #[.int .i64 2, .int .i64 s], .agg #[.slice A n c, .int .i64 a, .int .i64 e], .pointer (some ⟨g, 0, none⟩)] w fun e' w' => e' = .returned (.tuple #[.agg #[.slice A n c, .int .i64 (lnT 10 1 n xs a e), .int .i64 (lnE 10 1 n xs a e)], .bool true]) ∧ Bxr w' g A n c (lnT 10 1 n xs a e) (lnE 10 1 n xs a e) ∧ Off g w.heap.size w w' := by
  have hBw : B ≤ w.heap.size := by omega
  have hp := fun w1 (hw : Below w.heap.size w w1) => long_any A n c B a e xs w1 (hr.below' hw hBw) (by have := hw.size; omega) hnc (by omega)
  have hq := fun w1 h1 h2 h3 => rlong_any g A n c B a e xs w1 h1 h2 h3 hB hnc (by omega)
  generalize lnN 10 1 n xs a e = N at *
  generalize lnT 10 1 n xs a e = T at *
  generalize lnE 10 1 n xs a e = E at *
  have HP := Lib.hid hp
  have HQ := Lib.hid hq
  clear hp hq
  go_enter Try.func42, Try.ntmps42
  go_wp2_with fail
  refine (HP.out _ (by repeat' (first | with_reducible exact Below.refl _ _ | with_reducible assumption | with_reducible refine Below.drew ?_ | with_reducible refine Below.setCell ?_ (by simp <;> omega) _ | with_reducible refine Below.alloc ?_ (by simp <;> omega) _))).mono ?_
  rintro e' w2 ⟨rfl, hb2⟩
  have hbw3 : Below w.heap.size w (((w.alloc (.cells #[.int .i64 2, .int .i64 s] 67)).alloc (.cells #[.slice A n c, .int .i64 a, .int .i64 e] 60)).alloc (.cells #[.slice none 0 0, .int .i64 0, .int .i64 0] 60)) := (((Below.refl _ _).al (Nat.le_refl _) _).al (Nat.le_refl _) _).al (Nat.le_refl _) _
  have x0 : Bxr (((w.alloc (.cells #[.int .i64 2, .int .i64 s] 67)).alloc (.cells #[.slice A n c, .int .i64 a, .int .i64 e] 60)).alloc (.cells #[.slice none 0 0, .int .i64 0, .int .i64 0] 60)) (w.heap.size + 1 + 1) none 0 0 0 0 := ⟨⟨by go_simp, by go_simp, by go_simp⟩, by go_simp, by go_simp, by go_simp⟩
  have x2 := x0.below hb2 (by simp)
  have xg2 := (hx.below hbw3 hg).below hb2 (by simp; omega)
  have ask2 : w2.cell? ⟨w.heap.size, 1, none⟩ = some (.int .i64 s) := (hb2.cell (by simp only [World.size_alloc]; omega)).trans (by go_simp)
  have hbz : Below w.heap.size w w2 := hbw3.thn (Nat.le_refl _) hb2
  have rd2 := hr.below' hbz hBw
  have hsz := hb2.size
  simp only [World.size_alloc] at hsz
  clear x0 hbw3 hb2 hr hx HP
  go_upto_region 10 with fail
  have BF : Bxr (w2.alloc (.cells #[.slice A n c, .int .i64 T, .int .i64 E] 60)) w2.heap.size A n c T E := ⟨⟨by go_simp, by go_simp, by go_simp⟩, by go_simp, by go_simp, by go_simp⟩
  have hbv := (Below.refl w2.heap.size w2).al (Nat.le_refl _) (.cells #[.slice A n c, .int .i64 T, .int .i64 E] 60)
  have BS := x2.below hbv (by omega)
  have BG := xg2.below hbv (by omega)
  have RD := rd2.below' hbv (by omega)
  have ASK := (hbv.cell (p := ⟨w.heap.size, 1, none⟩) (by simp only; omega)).trans ask2
  have hbz3 := hbz.thn (by omega) hbv
  have hsf : w2.heap.size < (w2.alloc (.cells #[.slice A n c, .int .i64 T, .int .i64 E] 60)).heap.size := by simp

  generalize (w2.alloc (.cells #[.slice A n c, .int .i64 T, .int .i64 E] 60)) = w3 at *
  obtain ⟨f, hf⟩ : ∃ f, f = w2.heap.size := ⟨_, rfl⟩
  rw [← hf] at BF hsf hsz ⊢
  clear hbv hf x2 xg2 rd2 ask2 hbz
  refine region_off (X := fun k => k = g ∨ k = w.heap.size + 1 + 1) (Plan.of [0, 1, 2, 3, 4, 5, 6] .nil) [3, 5] (by kernel_rfl) (by kernel_rfl) (by decide +kernel) (by kernel_rfl) (fun _ _ d _ _ h => by cases d <;> exact h) (fun wd hd hds => ?_)
  have BFD := Lib.hid (BF.below hd hsf)
  have BSD := Lib.hid (BS.below hd (by omega))
  have BGD := Lib.hid (BG.below hd (by omega))
  have RDD := RD.below' hd (by omega)
  have ASKD := Lib.hid ((hd.cell (p := ⟨w.heap.size, 1, none⟩) (by simp only; omega)).trans ASK)
  have hod : Off g w.heap.size w wd := Off.of (hbz3.thn (by omega) hd)
  have hfd : f < wd.heap.size := by omega

  have HNF := Lib.hid (show ¬ (fun k => k = g ∨ k = w.heap.size + 1 + 1) f by simp only; omega)
  have HNA := Lib.hid (show ¬ (fun k => k = g ∨ k = w.heap.size + 1 + 1) w.heap.size by simp only; omega)
  clear BF BS BG RD ASK hbz3 hsf hd hds
  repeat ((first | (refine off_pure (v := ?_) rfl rfl rfl ?_ ?_; rotate_left; · (intro w'; go_simp; try with_reducible rfl)) | (refine off_read rfl rfl rfl (f + 1) (by omega) ?_ ?_ ?_; rotate_left; · (intro w' hb; obtain ⟨⟨z0, z1, z2⟩, _, _, _⟩ := Bxr.offX BFD.out hb (by omega) HNF.out; have z3 := (hb.cell (p := ⟨w.heap.size, 1, none⟩) (by simp only; omega) HNA.out).trans ASKD.out; clear hb; go_simp; try with_reducible rfl))); simp only [Act.put, List.setIfInBounds_toArray, List.set_cons_zero, List.set_cons_succ])
  refine off_make rfl rfl (f + 1) (by omega) (fun Q1 hQ1 => ?_)
  go_wp2_with fail
  refine (HQ.out wd BGD.out (by omega) RDD).mono ?_
  rintro e' w4 ⟨rfl, hx4, ho4⟩
  go_wp2_with fail
  refine hQ1 _ _ (OffX.off (ho4.mono (by omega)) (.inl rfl)) ?_
  have hs4 := ho4.size
  have BS4 := BSD.out.off ho4 (by omega) (by omega)
  have ho5 := hod.trans (ho4.mono (by omega))
  repeat ((refine off_pure (v := ?_) rfl rfl rfl ?_ ?_; rotate_left; · (intro w'; go_simp; try with_reducible rfl)); simp only [Act.put, List.setIfInBounds_toArray, List.set_cons_zero, List.set_cons_succ])
  obtain ⟨⟨q0, q1, q2⟩, p0, p1, p2⟩ := BS4
  refine off_make rfl rfl (f + 1) (Nat.le_refl _) (fun Q1 hQ1 => ?_)
  go_wp2_with fail
  refine hQ1 _ _ ((((OffX.refl _ _ _).setAt (.inr rfl) 0 _).setAt (.inr rfl) 1 _).setAt (.inr rfl) 2 _) ?_
  repeat ((refine off_pure (v := ?_) rfl rfl rfl ?_ ?_; rotate_left; · (intro w'; go_simp; try with_reducible rfl)); simp only [Act.put, List.setIfInBounds_toArray, List.set_cons_zero, List.set_cons_succ])
  refine off_done ?_
  clear hQ1 BFD BSD BGD ASKD HNF HNA HQ hod
  have hgs : ¬ g = w.heap.size + 1 + 1 := by omega
  have hgs' : ¬ w.heap.size + 1 + 1 = g := by omega
  obtain ⟨⟨r0, r1, r2⟩, k0, k1, k2⟩ := hx4
  go_wp2
  refine bodyPost_ret (ret_ct (A := A) (n := n) (c := c) (a := T) (e := E) rfl rfl ⟨by go_simp, by go_simp, by go_simp⟩) rfl ⟨by simp [rdv], ⟨⟨by go_simp, by go_simp, by go_simp⟩, by go_simp, by go_simp, by go_simp⟩, by repeat' (first | with_reducible exact Off.refl _ _ _ | with_reducible assumption | with_reducible refine Off.drew ?_ | with_reducible refine Off.setNew ?_ (by simp only; omega) _ | with_reducible refine Off.alloc ?_ (by simp <;> omega) _)⟩
set_option maxRecDepth 100000 in
set_option maxHeartbeats 4000000 in
theorem does_k3 (g : Nat) (A : Option Addr) (n c B : Nat) (a e s : Int) (xs : List UInt8) (w : World) (hx : Bxr w g A n c a e) (hg : g < w.heap.size) (hr : Rd w B A n xs) (hB : B ≤ g) (hnc : n ≤ c) (hn : n ≤ 1000000) :
    Calls Try.prog 42 #[.agg #[.int .i64 3, .int .i64 s], .agg #[.slice A n c, .int .i64 a, .int .i64 e], .pointer (some ⟨g, 0, none⟩)] w fun e' w' => e' = .returned (.tuple #[.agg #[.slice A n c, .int .i64 (fxT n a e (min s 8)), .int .i64 (nxE n a e (min s 8))], .bool true]) ∧ Bxr w' g A n c (fxT n a e (min s 8)) (nxE n a e (min s 8)) ∧ Off g w.heap.size w w' := by
  have hBw : B ≤ w.heap.size := by omega
  have hp := fun w1 (hw : Below w.heap.size w w1) => bits_any A n c B a e xs w1 (hr.below' hw hBw) (by have := hw.size; omega) hnc (by omega) s
  have hq := fun w1 h1 h2 h3 => rbits_any g A n c B a e s xs w1 h1 h2 h3 hB hnc (by omega)
  generalize btU n xs a e s = N at *
  generalize fxT n a e (min s 8) = T at *
  generalize nxE n a e (min s 8) = E at *
  have HP := Lib.hid hp
  have HQ := Lib.hid hq
  clear hp hq
  go_enter Try.func42, Try.ntmps42
  go_wp2_with fail
  refine (HP.out _ (by repeat' (first | with_reducible exact Below.refl _ _ | with_reducible assumption | with_reducible refine Below.drew ?_ | with_reducible refine Below.setCell ?_ (by simp <;> omega) _ | with_reducible refine Below.alloc ?_ (by simp <;> omega) _))).mono ?_
  rintro e' w2 ⟨rfl, hb2⟩
  have hbw3 : Below w.heap.size w (((w.alloc (.cells #[.int .i64 3, .int .i64 s] 67)).alloc (.cells #[.slice A n c, .int .i64 a, .int .i64 e] 60)).alloc (.cells #[.slice none 0 0, .int .i64 0, .int .i64 0] 60)) := (((Below.refl _ _).al (Nat.le_refl _) _).al (Nat.le_refl _) _).al (Nat.le_refl _) _
  have x0 : Bxr (((w.alloc (.cells #[.int .i64 3, .int .i64 s] 67)).alloc (.cells #[.slice A n c, .int .i64 a, .int .i64 e] 60)).alloc (.cells #[.slice none 0 0, .int .i64 0, .int .i64 0] 60)) (w.heap.size + 1 + 1) none 0 0 0 0 := ⟨⟨by go_simp, by go_simp, by go_simp⟩, by go_simp, by go_simp, by go_simp⟩
  have x2 := x0.below hb2 (by simp)
  have xg2 := (hx.below hbw3 hg).below hb2 (by simp; omega)
  have ask2 : w2.cell? ⟨w.heap.size, 1, none⟩ = some (.int .i64 s) := (hb2.cell (by simp only [World.size_alloc]; omega)).trans (by go_simp)
  have hbz : Below w.heap.size w w2 := hbw3.thn (Nat.le_refl _) hb2
  have rd2 := hr.below' hbz hBw
  have hsz := hb2.size
  simp only [World.size_alloc] at hsz
  clear x0 hbw3 hb2 hr hx HP
  go_upto_region 13 with fail
  have BF : Bxr (w2.alloc (.cells #[.slice A n c, .int .i64 T, .int .i64 E] 60)) w2.heap.size A n c T E := ⟨⟨by go_simp, by go_simp, by go_simp⟩, by go_simp, by go_simp, by go_simp⟩
  have hbv := (Below.refl w2.heap.size w2).al (Nat.le_refl _) (.cells #[.slice A n c, .int .i64 T, .int .i64 E] 60)
  have BS := x2.below hbv (by omega)
  have BG := xg2.below hbv (by omega)
  have RD := rd2.below' hbv (by omega)
  have ASK := (hbv.cell (p := ⟨w.heap.size, 1, none⟩) (by simp only; omega)).trans ask2
  have hbz3 := hbz.thn (by omega) hbv
  have hsf : w2.heap.size < (w2.alloc (.cells #[.slice A n c, .int .i64 T, .int .i64 E] 60)).heap.size := by simp

  generalize (w2.alloc (.cells #[.slice A n c, .int .i64 T, .int .i64 E] 60)) = w3 at *
  obtain ⟨f, hf⟩ : ∃ f, f = w2.heap.size := ⟨_, rfl⟩
  rw [← hf] at BF hsf hsz ⊢
  clear hbv hf x2 xg2 rd2 ask2 hbz
  refine region_off (X := fun k => k = g ∨ k = w.heap.size + 1 + 1) (Plan.of [0, 1, 2, 3, 4, 5, 6, 7, 8] .nil) [5, 7] (by kernel_rfl) (by kernel_rfl) (by decide +kernel) (by kernel_rfl) (fun _ _ d _ _ h => by cases d <;> exact h) (fun wd hd hds => ?_)
  have BFD := Lib.hid (BF.below hd hsf)
  have BSD := Lib.hid (BS.below hd (by omega))
  have BGD := Lib.hid (BG.below hd (by omega))
  have RDD := RD.below' hd (by omega)
  have ASKD := Lib.hid ((hd.cell (p := ⟨w.heap.size, 1, none⟩) (by simp only; omega)).trans ASK)
  have hod : Off g w.heap.size w wd := Off.of (hbz3.thn (by omega) hd)
  have hfd : f < wd.heap.size := by omega

  have HNF := Lib.hid (show ¬ (fun k => k = g ∨ k = w.heap.size + 1 + 1) f by simp only; omega)
  have HNA := Lib.hid (show ¬ (fun k => k = g ∨ k = w.heap.size + 1 + 1) w.heap.size by simp only; omega)
  clear BF BS BG RD ASK hbz3 hsf hd hds
  repeat ((first | (refine off_pure (v := ?_) rfl rfl rfl ?_ ?_; rotate_left; · (intro w'; go_simp; try with_reducible rfl)) | (refine off_read rfl rfl rfl (f + 1) (by omega) ?_ ?_ ?_; rotate_left; · (intro w' hb; obtain ⟨⟨z0, z1, z2⟩, _, _, _⟩ := Bxr.offX BFD.out hb (by omega) HNF.out; have z3 := (hb.cell (p := ⟨w.heap.size, 1, none⟩) (by simp only; omega) HNA.out).trans ASKD.out; clear hb; go_simp; try with_reducible rfl))); simp only [Act.put, List.setIfInBounds_toArray, List.set_cons_zero, List.set_cons_succ])
  refine off_make rfl rfl (f + 1) (by omega) (fun Q1 hQ1 => ?_)
  go_wp2_with fail
  refine (HQ.out wd BGD.out (by omega) RDD).mono ?_
  rintro e' w4 ⟨rfl, hx4, ho4⟩
  go_wp2_with fail
  refine hQ1 _ _ (OffX.off (ho4.mono (by omega)) (.inl rfl)) ?_
  have hs4 := ho4.size
  have BS4 := BSD.out.off ho4 (by omega) (by omega)
  have ho5 := hod.trans (ho4.mono (by omega))
  repeat ((refine off_pure (v := ?_) rfl rfl rfl ?_ ?_; rotate_left; · (intro w'; go_simp; try with_reducible rfl)); simp only [Act.put, List.setIfInBounds_toArray, List.set_cons_zero, List.set_cons_succ])
  obtain ⟨⟨q0, q1, q2⟩, p0, p1, p2⟩ := BS4
  refine off_make rfl rfl (f + 1) (Nat.le_refl _) (fun Q1 hQ1 => ?_)
  go_wp2_with fail
  refine hQ1 _ _ ((((OffX.refl _ _ _).setAt (.inr rfl) 0 _).setAt (.inr rfl) 1 _).setAt (.inr rfl) 2 _) ?_
  repeat ((refine off_pure (v := ?_) rfl rfl rfl ?_ ?_; rotate_left; · (intro w'; go_simp; try with_reducible rfl)); simp only [Act.put, List.setIfInBounds_toArray, List.set_cons_zero, List.set_cons_succ])
  refine off_done ?_
  clear hQ1 BFD BSD BGD ASKD HNF HNA HQ hod
  have hgs : ¬ g = w.heap.size + 1 + 1 := by omega
  have hgs' : ¬ w.heap.size + 1 + 1 = g := by omega
  obtain ⟨⟨r0, r1, r2⟩, k0, k1, k2⟩ := hx4
  go_wp2
  refine bodyPost_ret (ret_ct (A := A) (n := n) (c := c) (a := T) (e := E) rfl rfl ⟨by go_simp, by go_simp, by go_simp⟩) rfl ⟨by simp [rdv], ⟨⟨by go_simp, by go_simp, by go_simp⟩, by go_simp, by go_simp, by go_simp⟩, by repeat' (first | with_reducible exact Off.refl _ _ _ | with_reducible assumption | with_reducible refine Off.drew ?_ | with_reducible refine Off.setNew ?_ (by simp only; omega) _ | with_reducible refine Off.alloc ?_ (by simp <;> omega) _)⟩
set_option maxRecDepth 100000 in
set_option maxHeartbeats 4000000 in
theorem does_k4 (g : Nat) (A : Option Addr) (n c B : Nat) (a e s : Int) (xs : List UInt8) (w : World) (hx : Bxr w g A n c a e) (hg : g < w.heap.size) (hr : Rd w B A n xs) (hB : B ≤ g) (hnc : n ≤ c) (hn : n ≤ 1000000) :
    Calls Try.prog 42 #[.agg #[.int .i64 4, .int .i64 s], .agg #[.slice A n c, .int .i64 a, .int .i64 e], .pointer (some ⟨g, 0, none⟩)] w fun e' w' => e' = .returned (.tuple #[.agg #[.slice A n c, .int .i64 (fxT n a e s), .int .i64 (nxE n a e s)], .bool true]) ∧ Bxr w' g A n c (fxT n a e s) (nxE n a e s) ∧ Off g w.heap.size w w' := by
  have hBw : B ≤ w.heap.size := by omega
  have hp := fun w1 (hw : Below w.heap.size w w1) => fixed_any A n c B a e xs w1 (hr.below' hw hBw) (by have := hw.size; omega) hnc (by omega) s
  have hq := fun w1 h1 h2 h3 => rfixed_any g A n c B a e s xs w1 h1 h2 h3 hB hnc (by omega)
  generalize fxY n xs a e s = Y at *
  generalize fxT n a e s = T at *
  generalize nxE n a e s = E at *
  have HP := Lib.hid hp
  have HQ := Lib.hid hq
  clear hp hq
  go_enter Try.func42, Try.ntmps42
  go_wp2_with fail
  refine (HP.out _ (by repeat' (first | with_reducible exact Below.refl _ _ | with_reducible assumption | with_reducible refine Below.drew ?_ | with_reducible refine Below.setCell ?_ (by simp <;> omega) _ | with_reducible refine Below.alloc ?_ (by simp <;> omega) _))).mono ?_
  rintro e' w2 ⟨A2, m2, rfl, hy2, hF2, hb2⟩
  have hbw3 : Below w.heap.size w (((w.alloc (.cells #[.int .i64 4, .int .i64 s] 67)).alloc (.cells #[.slice A n c, .int .i64 a, .int .i64 e] 60)).alloc (.cells #[.slice none 0 0, .int .i64 0, .int .i64 0] 60)) := (((Below.refl _ _).al (Nat.le_refl _) _).al (Nat.le_refl _) _).al (Nat.le_refl _) _
  have x0 : Bxr (((w.alloc (.cells #[.int .i64 4, .int .i64 s] 67)).alloc (.cells #[.slice A n c, .int .i64 a, .int .i64 e] 60)).alloc (.cells #[.slice none 0 0, .int .i64 0, .int .i64 0] 60)) (w.heap.size + 1 + 1) none 0 0 0 0 := ⟨⟨by go_simp, by go_simp, by go_simp⟩, by go_simp, by go_simp, by go_simp⟩
  have x2 := x0.below hb2 (by simp)
  have xg2 := (hx.below hbw3 hg).below hb2 (by simp; omega)
  have ask2 : w2.cell? ⟨w.heap.size, 1, none⟩ = some (.int .i64 s) := (hb2.cell (by simp only [World.size_alloc]; omega)).trans (by go_simp)
  have hbz : Below w.heap.size w w2 := hbw3.thn (Nat.le_refl _) hb2
  have rd2 := hr.below' hbz hBw
  have hsz := hb2.size
  simp only [World.size_alloc] at hsz
  have hF3 : 0 < m2 → ∀ ad, A2 = some ad → ¬ (ad.block = g ∨ ad.block = w.heap.size + 1 + 1) := fun h ad k => by have := hF2 h ad k; simp only [World.size_alloc] at this; omega
  clear hF2
  clear x0 hbw3 hb2 hr hx HP
  go_upto_region 16 with fail
  have BF : Bxr (w2.alloc (.cells #[.slice A n c, .int .i64 T, .int .i64 E] 60)) w2.heap.size A n c T E := ⟨⟨by go_simp, by go_simp, by go_simp⟩, by go_simp, by go_simp, by go_simp⟩
  have hbv := (Below.refl w2.heap.size w2).al (Nat.le_refl _) (.cells #[.slice A n c, .int .i64 T, .int .i64 E] 60)
  have BS := x2.below hbv (by omega)
  have BG := xg2.below hbv (by omega)
  have RD := rd2.below' hbv (by omega)
  have ASK := (hbv.cell (p := ⟨w.heap.size, 1, none⟩) (by simp only; omega)).trans ask2
  have hbz3 := hbz.thn (by omega) hbv
  have hsf : w2.heap.size < (w2.alloc (.cells #[.slice A n c, .int .i64 T, .int .i64 E] 60)).heap.size := by simp
  have hy3 := hy2.alloc (Nat.le_refl _) (.cells #[.slice A n c, .int .i64 T, .int .i64 E] 60)
  generalize (w2.alloc (.cells #[.slice A n c, .int .i64 T, .int .i64 E] 60)) = w3 at *
  obtain ⟨f, hf⟩ : ∃ f, f = w2.heap.size := ⟨_, rfl⟩
  rw [← hf] at BF hsf hsz hy3 ⊢
  clear hbv hf x2 xg2 rd2 ask2 hbz hy2
  refine region_off (X := fun k => k = g ∨ k = w.heap.size + 1 + 1) (Plan.of [0, 1, 2, 3, 4, 5, 6, 7, 8, 9, 10] .nil) [6, 9] (by kernel_rfl) (by kernel_rfl) (by decide +kernel) (by kernel_rfl) (fun _ _ d _ _ h => by cases d <;> exact h) (fun wd hd hds => ?_)
  have BFD := Lib.hid (BF.below hd hsf)
  have BSD := Lib.hid (BS.below hd (by omega))
  have BGD := Lib.hid (BG.below hd (by omega))
  have RDD := RD.below' hd (by omega)
  have ASKD := Lib.hid ((hd.cell (p := ⟨w.heap.size, 1, none⟩) (by simp only; omega)).trans ASK)
  have hod : Off g w.heap.size w wd := Off.of (hbz3.thn (by omega) hd)
  have hfd : f < wd.heap.size := by omega
  have hyd := hy3.below' hd (by omega)
  have HNF := Lib.hid (show ¬ (fun k => k = g ∨ k = w.heap.size + 1 + 1) f by simp only; omega)
  have HNA := Lib.hid (show ¬ (fun k => k = g ∨ k = w.heap.size + 1 + 1) w.heap.size by simp only; omega)
  clear BF BS BG RD ASK hbz3 hsf hd hds hy3
  repeat ((first | (refine off_pure (v := ?_) rfl rfl rfl ?_ ?_; rotate_left; · (intro w'; go_simp; try with_reducible rfl)) | (refine off_read rfl rfl rfl (f + 1) (by omega) ?_ ?_ ?_; rotate_left; · (intro w' hb; obtain ⟨⟨z0, z1, z2⟩, _, _, _⟩ := Bxr.offX BFD.out hb (by omega) HNF.out; have z3 := (hb.cell (p := ⟨w.heap.size, 1, none⟩) (by simp only; omega) HNA.out).trans ASKD.out; clear hb; go_simp; try with_reducible rfl))); simp only [Act.put, List.setIfInBounds_toArray, List.set_cons_zero, List.set_cons_succ])
  refine off_read rfl rfl rfl (f + 1) (by omega) _ (fun w' hb => exec_str rfl (hyd.offX hb (by omega) hF3)) ?_
  simp only [Act.put, List.setIfInBounds_toArray, List.set_cons_zero, List.set_cons_succ]
  repeat ((first | (refine off_pure (v := ?_) rfl rfl rfl ?_ ?_; rotate_left; · (intro w'; go_simp; try with_reducible rfl)) | (refine off_read rfl rfl rfl (f + 1) (by omega) ?_ ?_ ?_; rotate_left; · (intro w' hb; obtain ⟨⟨z0, z1, z2⟩, _, _, _⟩ := Bxr.offX BFD.out hb (by omega) HNF.out; have z3 := (hb.cell (p := ⟨w.heap.size, 1, none⟩) (by simp only; omega) HNA.out).trans ASKD.out; clear hb; go_simp; try with_reducible rfl))); simp only [Act.put, List.setIfInBounds_toArray, List.set_cons_zero, List.set_cons_succ])
  refine off_make rfl rfl (f + 1) (by omega) (fun Q1 hQ1 => ?_)
  go_wp2_with fail
  refine (HQ.out wd BGD.out (by omega) RDD).mono ?_
  rintro e' w4 ⟨A4, l4, c4, rfl, hl4, hy4, hF4, hx4, ho4⟩
  go_wp2_with fail
  refine hQ1 _ _ (OffX.off (ho4.mono (by omega)) (.inl rfl)) ?_
  have hs4 := ho4.size
  have BS4 := BSD.out.off ho4 (by omega) (by omega)
  have ho5 := hod.trans (ho4.mono (by omega))
  have hF5 : 0 < l4 → ∀ ad, A4 = some ad → ¬ (ad.block = g ∨ ad.block = w.heap.size + 1 + 1) := fun h ad k => by have := hF4 h ad k; omega
  clear hQ1
  refine off_read rfl rfl rfl w4.heap.size (by omega) _ (fun w' hb => exec_str rfl (hy4.offX hb (Nat.le_refl _) hF5)) ?_
  simp only [Act.put, List.setIfInBounds_toArray, List.set_cons_zero, List.set_cons_succ]
  refine off_pure rfl rfl rfl (exec_seq rfl rfl) ?_
  simp only [Act.put, List.setIfInBounds_toArray, List.set_cons_zero, List.set_cons_succ]
  repeat ((refine off_pure (v := ?_) rfl rfl rfl ?_ ?_; rotate_left; · (intro w'; go_simp; try with_reducible rfl)); simp only [Act.put, List.setIfInBounds_toArray, List.set_cons_zero, List.set_cons_succ])
  obtain ⟨⟨q0, q1, q2⟩, p0, p1, p2⟩ := BS4
  refine off_make rfl rfl w4.heap.size (Nat.le_refl _) (fun Q1 hQ1 => ?_)
  go_wp2_with fail
  refine hQ1 _ _ ((((OffX.refl _ _ _).setAt (.inr rfl) 0 _).setAt (.inr rfl) 1 _).setAt (.inr rfl) 2 _) ?_
  repeat ((refine off_pure (v := ?_) rfl rfl rfl ?_ ?_; rotate_left; · (intro w'; go_simp; try with_reducible rfl)); simp only [Act.put, List.setIfInBounds_toArray, List.set_cons_zero, List.set_cons_succ])
  refine off_done ?_
  clear hQ1 BFD BSD BGD ASKD HNF HNA HQ hod hF3 hF5 hF4 hy4 hyd
  have hgs : ¬ g = w.heap.size + 1 + 1 := by omega
  have hgs' : ¬ w.heap.size + 1 + 1 = g := by omega
  obtain ⟨⟨r0, r1, r2⟩, k0, k1, k2⟩ := hx4
  go_wp2
  refine bodyPost_ret (ret_ct (A := A) (n := n) (c := c) (a := T) (e := E) rfl rfl ⟨by go_simp, by go_simp, by go_simp⟩) rfl ⟨by simp [rdv], ⟨⟨by go_simp, by go_simp, by go_simp⟩, by go_simp, by go_simp, by go_simp⟩, by repeat' (first | with_reducible exact Off.refl _ _ _ | with_reducible assumption | with_reducible refine Off.drew ?_ | with_reducible refine Off.setNew ?_ (by simp only; omega) _ | with_reducible refine Off.alloc ?_ (by simp <;> omega) _)⟩
set_option maxRecDepth 100000 in
set_option maxHeartbeats 4000000 in
theorem does_k5 (g : Nat) (A : Option Addr) (n c B : Nat) (a e s : Int) (xs : List UInt8) (w : World) (hx : Bxr w g A n c a e) (hg : g < w.heap.size) (hr : Rd w B A n xs) (hB : B ≤ g) (hnc : n ≤ c) (hn : n ≤ 1000000) :
    Calls Try.prog 42 #[.agg #[.int .i64 5, .int .i64 s], .agg #[.slice A n c, .int .i64 a, .int .i64 e], .pointer (some ⟨g, 0, none⟩)] w fun e' w' => e' = .returned (.tuple #[.agg #[.slice A n c, .int .i64 (byT n xs a e), .int .i64 (byE n xs a e)], .bool true]) ∧ Bxr w' g A n c (byT n xs a e) (byE n xs a e) ∧ Off g w.heap.size w w' := by
  have hBw : B ≤ w.heap.size := by omega
  have hp := fun w1 (hw : Below w.heap.size w w1) => bytes_any A n c B a e xs w1 (hr.below' hw hBw) (by have := hw.size; omega) hnc (by omega)
  have hq := fun w1 h1 h2 h3 => rbytes_any g A n c B a e xs w1 h1 h2 h3 hB hnc (by omega)
  generalize byY n xs a e = Y at *
  generalize byT n xs a e = T at *
  generalize byE n xs a e = E at *
  have HP := Lib.hid hp
  have HQ := Lib.hid hq
  clear hp hq
  go_enter Try.func42, Try.ntmps42
  go_wp2_with fail
  refine (HP.out _ (by repeat' (first | with_reducible exact Below.refl _ _ | with_reducible assumption | with_reducible refine Below.drew ?_ | with_reducible refine Below.setCell ?_ (by simp <;> omega) _ | with_reducible refine Below.alloc ?_ (by simp <;> omega) _))).mono ?_
  rintro e' w2 ⟨A2, m2, rfl, hy2, hF2, hb2⟩
  have hbw3 : Below w.heap.size w (((w.alloc (.cells #[.int .i64 5, .int .i64 s] 67)).alloc (.cells #[.slice A n c, .int .i64 a, .int .i64 e] 60)).alloc (.cells #[.slice none 0 0, .int .i64 0, .int .i64 0] 60)) := (((Below.refl _ _).al (Nat.le_refl _) _).al (Nat.le_refl _) _).al (Nat.le_refl _) _
  have x0 : Bxr (((w.alloc (.cells #[.int .i64 5, .int .i64 s] 67)).alloc (.cells #[.slice A n c, .int .i64 a, .int .i64 e] 60)).alloc (.cells #[.slice none 0 0, .int .i64 0, .int .i64 0] 60)) (w.heap.size + 1 + 1) none 0 0 0 0 := ⟨⟨by go_simp, by go_simp, by go_simp⟩, by go_simp, by go_simp, by go_simp⟩
  have x2 := x0.below hb2 (by simp)
  have xg2 := (hx.below hbw3 hg).below hb2 (by simp; omega)
  have ask2 : w2.cell? ⟨w.heap.size, 1, none⟩ = some (.int .i64 s) := (hb2.cell (by simp only [World.size_alloc]; omega)).trans (by go_simp)
  have hbz : Below w.heap.size w w2 := hbw3.thn (Nat.le_refl _) hb2
  have rd2 := hr.below' hbz hBw
  have hsz := hb2.size
  simp only [World.size_alloc] at hsz
  have hF3 : 0 < m2 → ∀ ad, A2 = some ad → ¬ (ad.block = g ∨ ad.block = w.heap.size + 1 + 1) := fun h ad k => by have := hF2 h ad k; simp only [World.size_alloc] at this; omega
  clear hF2
  clear x0 hbw3 hb2 hr hx HP
  go_upto_region 19 with fail
  have BF : Bxr (w2.alloc (.cells #[.slice A n c, .int .i64 T, .int .i64 E] 60)) w2.heap.size A n c T E := ⟨⟨by go_simp, by go_simp, by go_simp⟩, by go_simp, by go_simp, by go_simp⟩
  have hbv := (Below.refl w2.heap.size w2).al (Nat.le_refl _) (.cells #[.slice A n c, .int .i64 T, .int .i64 E] 60)
  have BS := x2.below hbv (by omega)
  have BG := xg2.below hbv (by omega)
  have RD := rd2.below' hbv (by omega)
  have ASK := (hbv.cell (p := ⟨w.heap.size, 1, none⟩) (by simp only; omega)).trans ask2
  have hbz3 := hbz.thn (by omega) hbv
  have hsf : w2.heap.size < (w2.alloc (.cells #[.slice A n c, .int .i64 T, .int .i64 E] 60)).heap.size := by simp
  have hy3 := hy2.alloc (Nat.le_refl _) (.cells #[.slice A n c, .int .i64 T, .int .i64 E] 60)
  generalize (w2.alloc (.cells #[.slice A n c, .int .i64 T, .int .i64 E] 60)) = w3 at *
  obtain ⟨f, hf⟩ : ∃ f, f = w2.heap.size := ⟨_, rfl⟩
  rw [← hf] at BF hsf hsz hy3 ⊢
  clear hbv hf x2 xg2 rd2 ask2 hbz hy2
  refine region_off (X := fun k => k = g ∨ k = w.heap.size + 1 + 1) (Plan.of [0, 1, 2, 3, 4, 5, 6, 7, 8] .nil) [4, 7] (by kernel_rfl) (by kernel_rfl) (by decide +kernel) (by kernel_rfl) (fun _ _ d _ _ h => by cases d <;> exact h) (fun wd hd hds => ?_)
  have BFD := Lib.hid (BF.below hd hsf)
  have BSD := Lib.hid (BS.below hd (by omega))
  have BGD := Lib.hid (BG.below hd (by omega))
  have RDD := RD.below' hd (by omega)
  have ASKD := Lib.hid ((hd.cell (p := ⟨w.heap.size, 1, none⟩) (by simp only; omega)).trans ASK)
  have hod : Off g w.heap.size w wd := Off.of (hbz3.thn (by omega) hd)
  have hfd : f < wd.heap.size := by omega
  have hyd := hy3.below' hd (by omega)
  have HNF := Lib.hid (show ¬ (fun k => k = g ∨ k = w.heap.size + 1 + 1) f by simp only; omega)
  have HNA := Lib.hid (show ¬ (fun k => k = g ∨ k = w.heap.size + 1 + 1) w.heap.size by simp only; omega)
  clear BF BS BG RD ASK hbz3 hsf hd hds hy3
  repeat ((first | (refine off_pure (v := ?_) rfl rfl rfl ?_ ?_; rotate_left; · (intro w'; go_simp; try with_reducible rfl)) | (refine off_read rfl rfl rfl (f + 1) (by omega) ?_ ?_ ?_; rotate_left; · (intro w' hb; obtain ⟨⟨z0, z1, z2⟩, _, _, _⟩ := Bxr.offX BFD.out hb (by omega) HNF.out; have z3 := (hb.cell (p := ⟨w.heap.size, 1, none⟩) (by simp only; omega) HNA.out).trans ASKD.out; clear hb; go_simp; try with_reducible rfl))); simp only [Act.put, List.setIfInBounds_toArray, List.set_cons_zero, List.set_cons_succ])
  refine off_read rfl rfl rfl (f + 1) (by omega) _ (fun w' hb => exec_str rfl (hyd.offX hb (by omega) hF3)) ?_
  simp only [Act.put, List.setIfInBounds_toArray, List.set_cons_zero, List.set_cons_succ]
  repeat ((first | (refine off_pure (v := ?_) rfl rfl rfl ?_ ?_; rotate_left; · (intro w'; go_simp; try with_reducible rfl)) | (refine off_read rfl rfl rfl (f + 1) (by omega) ?_ ?_ ?_; rotate_left; · (intro w' hb; obtain ⟨⟨z0, z1, z2⟩, _, _, _⟩ := Bxr.offX BFD.out hb (by omega) HNF.out; have z3 := (hb.cell (p := ⟨w.heap.size, 1, none⟩) (by simp only; omega) HNA.out).trans ASKD.out; clear hb; go_simp; try with_reducible rfl))); simp only [Act.put, List.setIfInBounds_toArray, List.set_cons_zero, List.set_cons_succ])
  refine off_make rfl rfl (f + 1) (by omega) (fun Q1 hQ1 => ?_)
  go_wp2_with fail
  refine (HQ.out wd BGD.out (by omega) RDD).mono ?_
  rintro e' w4 ⟨A4, l4, c4, rfl, hl4, hy4, hF4, hx4, ho4⟩
  go_wp2_with fail
  refine hQ1 _ _ (OffX.off (ho4.mono (by omega)) (.inl rfl)) ?_
  have hs4 := ho4.size
  have BS4 := BSD.out.off ho4 (by omega) (by omega)
  have ho5 := hod.trans (ho4.mono (by omega))
  have hF5 : 0 < l4 → ∀ ad, A4 = some ad → ¬ (ad.block = g ∨ ad.block = w.heap.size + 1 + 1) := fun h ad k => by have := hF4 h ad k; omega
  clear hQ1
  refine off_read rfl rfl rfl w4.heap.size (by omega) _ (fun w' hb => exec_str rfl (hy4.offX hb (Nat.le_refl _) hF5)) ?_
  simp only [Act.put, List.setIfInBounds_toArray, List.set_cons_zero, List.set_cons_succ]
  refine off_pure rfl rfl rfl (exec_seq rfl rfl) ?_
  simp only [Act.put, List.setIfInBounds_toArray, List.set_cons_zero, List.set_cons_succ]
  repeat ((refine off_pure (v := ?_) rfl rfl rfl ?_ ?_; rotate_left; · (intro w'; go_simp; try with_reducible rfl)); simp only [Act.put, List.setIfInBounds_toArray, List.set_cons_zero, List.set_cons_succ])
  obtain ⟨⟨q0, q1, q2⟩, p0, p1, p2⟩ := BS4
  refine off_make rfl rfl w4.heap.size (Nat.le_refl _) (fun Q1 hQ1 => ?_)
  go_wp2_with fail
  refine hQ1 _ _ ((((OffX.refl _ _ _).setAt (.inr rfl) 0 _).setAt (.inr rfl) 1 _).setAt (.inr rfl) 2 _) ?_
  repeat ((refine off_pure (v := ?_) rfl rfl rfl ?_ ?_; rotate_left; · (intro w'; go_simp; try with_reducible rfl)); simp only [Act.put, List.setIfInBounds_toArray, List.set_cons_zero, List.set_cons_succ])
  refine off_done ?_
  clear hQ1 BFD BSD BGD ASKD HNF HNA HQ hod hF3 hF5 hF4 hy4 hyd
  have hgs : ¬ g = w.heap.size + 1 + 1 := by omega
  have hgs' : ¬ w.heap.size + 1 + 1 = g := by omega
  obtain ⟨⟨r0, r1, r2⟩, k0, k1, k2⟩ := hx4
  go_wp2
  refine bodyPost_ret (ret_ct (A := A) (n := n) (c := c) (a := T) (e := E) rfl rfl ⟨by go_simp, by go_simp, by go_simp⟩) rfl ⟨by simp [rdv], ⟨⟨by go_simp, by go_simp, by go_simp⟩, by go_simp, by go_simp, by go_simp⟩, by repeat' (first | with_reducible exact Off.refl _ _ _ | with_reducible assumption | with_reducible refine Off.drew ?_ | with_reducible refine Off.setNew ?_ (by simp only; omega) _ | with_reducible refine Off.alloc ?_ (by simp <;> omega) _)⟩
set_option maxRecDepth 100000 in
set_option maxHeartbeats 4000000 in
theorem does_k6 (g : Nat) (A : Option Addr) (n c B : Nat) (a e s : Int) (xs : List UInt8) (w : World) (hx : Bxr w g A n c a e) (hg : g < w.heap.size) (hr : Rd w B A n xs) (hB : B ≤ g) (hnc : n ≤ c) (hn : n ≤ 1000000) :
    Calls Try.prog 42 #[.agg #[.int .i64 6, .int .i64 s], .agg #[.slice A n c, .int .i64 a, .int .i64 e], .pointer (some ⟨g, 0, none⟩)] w fun e' w' => e' = .returned (.tuple #[.agg #[.slice A n c, .int .i64 (txT n xs a e), .int .i64 (txE n xs a e)], .bool true]) ∧ Bxr w' g A n c (txT n xs a e) (txE n xs a e) ∧ Off g w.heap.size w w' := by
  have hBw : B ≤ w.heap.size := by omega
  have hp := fun w1 (hw : Below w.heap.size w w1) => text_any A n c B a e xs w1 (hr.below' hw hBw) (by have := hw.size; omega) hnc (by omega)
  have hq := fun w1 h1 h2 h3 => rtext_any g A n c B a e xs w1 h1 h2 h3 hB hnc (by omega)
  generalize txY n xs a e = Y at *
  generalize txT n xs a e = T at *
  generalize txE n xs a e = E at *
  have HP := Lib.hid hp
  have HQ := Lib.hid hq
  clear hp hq
  go_enter Try.func42, Try.ntmps42
  go_wp2_with fail
  refine (HP.out _ (by repeat' (first | with_reducible exact Below.refl _ _ | with_reducible assumption | with_reducible refine Below.drew ?_ | with_reducible refine Below.setCell ?_ (by simp <;> omega) _ | with_reducible refine Below.alloc ?_ (by simp <;> omega) _))).mono ?_
  rintro e' w2 ⟨A2, m2, rfl, hy2, hF2, hb2⟩
  have hbw3 : Below w.heap.size w (((w.alloc (.cells #[.int .i64 6, .int .i64 s] 67)).alloc (.cells #[.slice A n c, .int .i64 a, .int .i64 e] 60)).alloc (.cells #[.slice none 0 0, .int .i64 0, .int .i64 0] 60)) := (((Below.refl _ _).al (Nat.le_refl _) _).al (Nat.le_refl _) _).al (Nat.le_refl _) _
  have x0 : Bxr (((w.alloc (.cells #[.int .i64 6, .int .i64 s] 67)).alloc (.cells #[.slice A n c, .int .i64 a, .int .i64 e] 60)).alloc (.cells #[.slice none 0 0, .int .i64 0, .int .i64 0] 60)) (w.heap.size + 1 + 1) none 0 0 0 0 := ⟨⟨by go_simp, by go_simp, by go_simp⟩, by go_simp, by go_simp, by go_simp⟩
  have x2 := x0.below hb2 (by simp)
  have xg2 := (hx.below hbw3 hg).below hb2 (by simp; omega)
  have ask2 : w2.cell? ⟨w.heap.size, 1, none⟩ = some (.int .i64 s) := (hb2.cell (by simp only [World.size_alloc]; omega)).trans (by go_simp)
  have hbz : Below w.heap.size w w2 := hbw3.thn (Nat.le_refl _) hb2
  have rd2 := hr.below' hbz hBw
  have hsz := hb2.size
  simp only [World.size_alloc] at hsz
  have hF3 : 0 < m2 → ∀ ad, A2 = some ad → ¬ (ad.block = g ∨ ad.block = w.heap.size + 1 + 1) := fun h ad k => by have := hF2 h ad k; simp only [World.size_alloc] at this; omega
  clear hF2
  clear x0 hbw3 hb2 hr hx HP
  go_upto_region 22 with fail
  have BF : Bxr (w2.alloc (.cells #[.slice A n c, .int .i64 T, .int .i64 E] 60)) w2.heap.size A n c T E := ⟨⟨by go_simp, by go_simp, by go_simp⟩, by go_simp, by go_simp, by go_simp⟩
  have hbv := (Below.refl w2.heap.size w2).al (Nat.le_refl _) (.cells #[.slice A n c, .int .i64 T, .int .i64 E] 60)
  have BS := x2.below hbv (by omega)
  have BG := xg2.below hbv (by omega)
  have RD := rd2.below' hbv (by omega)
  have ASK := (hbv.cell (p := ⟨w.heap.size, 1, none⟩) (by simp only; omega)).trans ask2
  have hbz3 := hbz.thn (by omega) hbv
  have hsf : w2.heap.size < (w2.alloc (.cells #[.slice A n c, .int .i64 T, .int .i64 E] 60)).heap.size := by simp
  have hy3 := hy2.alloc (Nat.le_refl _) (.cells #[.slice A n c, .int .i64 T, .int .i64 E] 60)
  generalize (w2.alloc (.cells #[.slice A n c, .int .i64 T, .int .i64 E] 60)) = w3 at *
  obtain ⟨f, hf⟩ : ∃ f, f = w2.heap.size := ⟨_, rfl⟩
  rw [← hf] at BF hsf hsz hy3 ⊢
  clear hbv hf x2 xg2 rd2 ask2 hbz hy2
  refine region_off (X := fun k => k = g ∨ k = w.heap.size + 1 + 1) (Plan.of [0, 1, 2, 3, 4, 5, 6, 7, 8] .nil) [4, 7] (by kernel_rfl) (by kernel_rfl) (by decide +kernel) (by kernel_rfl) (fun _ _ d _ _ h => by cases d <;> exact h) (fun wd hd hds => ?_)
  have BFD := Lib.hid (BF.below hd hsf)
  have BSD := Lib.hid (BS.below hd (by omega))
  have BGD := Lib.hid (BG.below hd (by omega))
  have RDD := RD.below' hd (by omega)
  have ASKD := Lib.hid ((hd.cell (p := ⟨w.heap.size, 1, none⟩) (by simp only; omega)).trans ASK)
  have hod : Off g w.heap.size w wd := Off.of (hbz3.thn (by omega) hd)
  have hfd : f < wd.heap.size := by omega
  have hyd := hy3.below' hd (by omega)
  have HNF := Lib.hid (show ¬ (fun k => k = g ∨ k = w.heap.size + 1 + 1) f by simp only; omega)
  have HNA := Lib.hid (show ¬ (fun k => k = g ∨ k = w.heap.size + 1 + 1) w.heap.size by simp only; omega)
  clear BF BS BG RD ASK hbz3 hsf hd hds hy3
  repeat ((first | (refine off_pure (v := ?_) rfl rfl rfl ?_ ?_; rotate_left; · (intro w'; go_simp; try with_reducible rfl)) | (refine off_read rfl rfl rfl (f + 1) (by omega) ?_ ?_ ?_; rotate_left; · (intro w' hb; obtain ⟨⟨z0, z1, z2⟩, _, _, _⟩ := Bxr.offX BFD.out hb (by omega) HNF.out; have z3 := (hb.cell (p := ⟨w.heap.size, 1, none⟩) (by simp only; omega) HNA.out).trans ASKD.out; clear hb; go_simp; try with_reducible rfl))); simp only [Act.put, List.setIfInBounds_toArray, List.set_cons_zero, List.set_cons_succ])
  refine off_read rfl rfl rfl (f + 1) (by omega) _ (fun w' hb => exec_str rfl (hyd.offX hb (by omega) hF3)) ?_
  simp only [Act.put, List.setIfInBounds_toArray, List.set_cons_zero, List.set_cons_succ]
  repeat ((first | (refine off_pure (v := ?_) rfl rfl rfl ?_ ?_; rotate_left; · (intro w'; go_simp; try with_reducible rfl)) | (refine off_read rfl rfl rfl (f + 1) (by omega) ?_ ?_ ?_; rotate_left; · (intro w' hb; obtain ⟨⟨z0, z1, z2⟩, _, _, _⟩ := Bxr.offX BFD.out hb (by omega) HNF.out; have z3 := (hb.cell (p := ⟨w.heap.size, 1, none⟩) (by simp only; omega) HNA.out).trans ASKD.out; clear hb; go_simp; try with_reducible rfl))); simp only [Act.put, List.setIfInBounds_toArray, List.set_cons_zero, List.set_cons_succ])
  refine off_make rfl rfl (f + 1) (by omega) (fun Q1 hQ1 => ?_)
  go_wp2_with fail
  refine (HQ.out wd BGD.out (by omega) RDD).mono ?_
  rintro e' w4 ⟨A4, l4, c4, rfl, hl4, hy4, hF4, hx4, ho4⟩
  go_wp2_with fail
  refine hQ1 _ _ (OffX.off (ho4.mono (by omega)) (.inl rfl)) ?_
  have hs4 := ho4.size
  have BS4 := BSD.out.off ho4 (by omega) (by omega)
  have ho5 := hod.trans (ho4.mono (by omega))
  have hF5 : 0 < l4 → ∀ ad, A4 = some ad → ¬ (ad.block = g ∨ ad.block = w.heap.size + 1 + 1) := fun h ad k => by have := hF4 h ad k; omega
  clear hQ1
  refine off_read rfl rfl rfl w4.heap.size (by omega) _ (fun w' hb => exec_str rfl (hy4.offX hb (Nat.le_refl _) hF5)) ?_
  simp only [Act.put, List.setIfInBounds_toArray, List.set_cons_zero, List.set_cons_succ]
  refine off_pure rfl rfl rfl (exec_seq rfl rfl) ?_
  simp only [Act.put, List.setIfInBounds_toArray, List.set_cons_zero, List.set_cons_succ]
  repeat ((refine off_pure (v := ?_) rfl rfl rfl ?_ ?_; rotate_left; · (intro w'; go_simp; try with_reducible rfl)); simp only [Act.put, List.setIfInBounds_toArray, List.set_cons_zero, List.set_cons_succ])
  obtain ⟨⟨q0, q1, q2⟩, p0, p1, p2⟩ := BS4
  refine off_make rfl rfl w4.heap.size (Nat.le_refl _) (fun Q1 hQ1 => ?_)
  go_wp2_with fail
  refine hQ1 _ _ ((((OffX.refl _ _ _).setAt (.inr rfl) 0 _).setAt (.inr rfl) 1 _).setAt (.inr rfl) 2 _) ?_
  repeat ((refine off_pure (v := ?_) rfl rfl rfl ?_ ?_; rotate_left; · (intro w'; go_simp; try with_reducible rfl)); simp only [Act.put, List.setIfInBounds_toArray, List.set_cons_zero, List.set_cons_succ])
  refine off_done ?_
  clear hQ1 BFD BSD BGD ASKD HNF HNA HQ hod hF3 hF5 hF4 hy4 hyd
  have hgs : ¬ g = w.heap.size + 1 + 1 := by omega
  have hgs' : ¬ w.heap.size + 1 + 1 = g := by omega
  obtain ⟨⟨r0, r1, r2⟩, k0, k1, k2⟩ := hx4
  go_wp2
  refine bodyPost_ret (ret_ct (A := A) (n := n) (c := c) (a := T) (e := E) rfl rfl ⟨by go_simp, by go_simp, by go_simp⟩) rfl ⟨by simp [rdv], ⟨⟨by go_simp, by go_simp, by go_simp⟩, by go_simp, by go_simp, by go_simp⟩, by repeat' (first | with_reducible exact Off.refl _ _ _ | with_reducible assumption | with_reducible refine Off.drew ?_ | with_reducible refine Off.setNew ?_ (by simp only; omega) _ | with_reducible refine Off.alloc ?_ (by simp <;> omega) _)⟩
set_option maxRecDepth 100000 in
set_option maxHeartbeats 4000000 in
theorem does_other (g : Nat) (A : Option Addr) (n c : Nat) (a e k s : Int) (w : World) (hx : Bxr w g A n c a e) (hg : g < w.heap.size) (k0 : (k == 0) = false) (k1 : (k == 1) = false) (k2 : (k == 2) = false) (k3 : (k == 3) = false) (k4 : (k == 4) = false) (k5 : (k == 5) = false) (k6 : (k == 6) = false) :
    Calls Try.prog 42 #[.agg #[.int .i64 k, .int .i64 s], .agg #[.slice A n c, .int .i64 a, .int .i64 e], .pointer (some ⟨g, 0, none⟩)] w fun e' w' => e' = .returned (.tuple #[.agg #[.slice A n c, .int .i64 a, .int .i64 e], .bool true]) ∧ Bxr w' g A n c a e ∧ Off g w.heap.size w w' := by
  have HX := Lib.hid hx
  clear hx
  go_enter Try.func42, Try.ntmps42
  go_wp2
  have hgs : ¬ g = w.heap.size + 1 + 1 := by omega
  have hgs' : ¬ w.heap.size + 1 + 1 = g := by omega
  have hb : Below w.heap.size w ((((((w.alloc (.cells #[.int .i64 k, .int .i64 s] 67)).alloc (.cells #[.slice A n c, .int .i64 a, .int .i64 e] 60)).alloc (.cells #[.slice none 0 0, .int .i64 0, .int .i64 0] 60)).setCell ⟨(w.heap.size + 1 + 1), 0, none⟩ (.slice A n c)).setCell ⟨(w.heap.size + 1 + 1), 1, none⟩ (.int .i64 a)).setCell ⟨(w.heap.size + 1 + 1), 2, none⟩ (.int .i64 e)) := by repeat' (first | with_reducible exact Below.refl _ _ | with_reducible assumption | with_reducible refine Below.drew ?_ | with_reducible refine Below.setCell ?_ (by simp <;> omega) _ | with_reducible refine Below.alloc ?_ (by simp <;> omega) _)
  have hb' : Below w.heap.size w ((((w.alloc (.cells #[.int .i64 k, .int .i64 s] 67)).alloc (.cells #[.slice A n c, .int .i64 a, .int .i64 e] 60))).alloc (.cells #[.slice A n c, .int .i64 a, .int .i64 e] 60)) := by repeat' (first | with_reducible exact Below.refl _ _ | with_reducible assumption | with_reducible refine Below.drew ?_ | with_reducible refine Below.setCell ?_ (by simp <;> omega) _ | with_reducible refine Below.alloc ?_ (by simp <;> omega) _)
  first
  | refine bodyPost_ret (ret_ct (A := A) (n := n) (c := c) (a := a) (e := e) rfl rfl ⟨by go_simp, by go_simp, by go_simp⟩) rfl ⟨by simp [rdv], HX.out.below hb' hg, Off.of hb'⟩
  | refine bodyPost_ret (ret_ct (A := A) (n := n) (c := c) (a := a) (e := e) rfl rfl ⟨by go_simp, by go_simp, by go_simp⟩) rfl ⟨by simp [rdv], HX.out.below hb hg, Off.of hb⟩
theorem does_any (g : Nat) (A : Option Addr) (n c B : Nat) (a e k s : Int) (xs : List UInt8) (w : World) (hx : Bxr w g A n c a e) (hg : g < w.heap.size) (hr : Rd w B A n xs) (hB : B ≤ g) (hnc : n ≤ c) (hn : n ≤ 1000000) :
    Calls Try.prog 42 #[.agg #[.int .i64 k, .int .i64 s], .agg #[.slice A n c, .int .i64 a, .int .i64 e], .pointer (some ⟨g, 0, none⟩)] w fun e' w' => e' = .returned (.tuple #[.agg #[.slice A n c, .int .i64 (dsT k s n xs a e), .int .i64 (dsE k s n xs a e)], .bool true]) ∧ Bxr w' g A n c (dsT k s n xs a e) (dsE k s n xs a e) ∧ Off g w.heap.size w w' := by
  unfold dsT dsE
  by_cases h0 : k = 0
  · subst h0
    exact does_k0 g A n c B a e s xs w hx hg hr hB hnc hn
  rw [if_neg h0, if_neg h0]
  by_cases h1 : k = 1
  · subst h1
    exact does_k1 g A n c B a e s xs w hx hg hr hB hnc hn
  rw [if_neg h1, if_neg h1]
  by_cases h2 : k = 2
  · subst h2
    exact does_k2 g A n c B a e s xs w hx hg hr hB hnc hn
  rw [if_neg h2, if_neg h2]
  by_cases h3 : k = 3
  · subst h3
    exact does_k3 g A n c B a e s xs w hx hg hr hB hnc hn
  rw [if_neg h3, if_neg h3]
  by_cases h4 : k = 4
  · subst h4
    exact does_k4 g A n c B a e s xs w hx hg hr hB hnc hn
  rw [if_neg h4, if_neg h4]
  by_cases h5 : k = 5
  · subst h5
    exact does_k5 g A n c B a e s xs w hx hg hr hB hnc hn
  rw [if_neg h5, if_neg h5]
  by_cases h6 : k = 6
  · subst h6
    exact does_k6 g A n c B a e s xs w hx hg hr hB hnc hn
  rw [if_neg h6, if_neg h6]
  exact does_other g A n c a e k s w hx hg (by simp [h0]) (by simp [h1]) (by simp [h2]) (by simp [h3]) (by simp [h4]) (by simp [h5]) (by simp [h6])
end Go.Proofs.Ytodgnlhakafhoaa.Wr
