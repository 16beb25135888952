/- The layer wire: the chapter's example; what is put. -/
import Derived.Test.YtodgnlhakafhoaaWirG
import Derived.Lib.SlBytesConst
namespace Go.Proofs.Ytodgnlhakafhoaa.Wr
open Go.ChangeShapes Go.WideShapes Go.ChangeAt Go.RowKit
open Num Mem

theorem rd_mark (w : World) (xs : List UInt8) (fr : Nat × Nat) : Rd (w.alloc (.cells (cells xs).toArray 5 fr)) (w.heap.size + 1) (some ⟨w.heap.size, 0, none⟩) xs.length xs := by
  refine ⟨rfl, fun _ => ⟨w.heap.size, 0, rfl, by omega, fun j y hy => ?_⟩⟩
  rw [Nat.zero_add, World.cell?_alloc_mark]
  simp [cells, hy, bc]

set_option maxRecDepth 100000 in
set_option maxHeartbeats 2000000 in
theorem works_any (w : World) :
    Calls Try.prog 35 #[] w fun e w' => e = .returned (.bool true) ∧ Below w.heap.size w w' := by
  have e1 : byE 4 [6, 102, 111, 111] 0 0 = 0 := by decide +kernel
  have e2 : byL [6, 102, 111, 111] 0 = [102, 111, 111] := by decide +kernel
  have e3 : (Ut.ucount (byL [6, 102, 111, 111] 0)).isSome = true := by decide +kernel
  have e4 : Vr.tkTo 10 1 [6, 102, 111, 111] 0 + Vr.tkN 10 1 [6, 102, 111, 111] 0 = 4 := by decide +kernel
  have e5 : lnE 10 1 0 [] 1 0 = 2 := by decide +kernel
  have e6 : enE 4 4 0 = 0 := by decide +kernel
  have e7 : enE 0 1 2 = 2 := by decide +kernel
  have htx := fun w1 hr hB => text_ok (some ⟨w.heap.size, 0, none⟩) 4 4 (w.heap.size + 1) 0 0 [6, 102, 111, 111] w1 hr hB (by omega) (by omega) e1 (by rw [e2]; simp) e3
  have hlg := fun w1 => long_no none 0 0 0 1 0 [] w1 (Rd.nil _ _ _) (by omega) (by omega) (by omega) (by rw [e5]; omega)
  rw [e4, e2] at htx
  rw [e5] at hlg
  have HTX := Lib.hid htx
  have HLG := Lib.hid hlg
  have E6 := Lib.hid e6
  have E7 := Lib.hid e7
  clear e1 e2 e3 e4 e5 e6 e7 htx hlg
  have kc := fun (w : World) (C : Array Value) (n c : Nat) => Lib.run_convert_bytes_const (P := Try.prog) w 22 5 C n c Try.underlying22 Try.underlying5
  go_enter Try.func35, Try.ntmps35
  go_wp2_with fail
  refine (HTX.out _ (rd_mark w [6, 102, 111, 111] _) (by simp)).mono ?_
  rintro e w2 ⟨A2, m, rfl, ho2, hb2⟩
  have hm := ho2.len
  obtain rfl : m = 3 := by simpa using hm.symm
  clear hm
  have hbz2 : Below w.heap.size w w2 := ((Below.refl _ _).al (Nat.le_refl _) _).thn (Nat.le_refl _) hb2
  have hsz2 := hb2.size
  simp only [World.size_alloc] at hsz2
  clear hb2
  go_wp2_with fail
  refine (HLG.out _).mono ?_
  rintro e w3 ⟨rfl, hb3⟩
  have y1 : Bxr w3 w2.heap.size (some ⟨w.heap.size, 0, none⟩) 4 4 4 0 := Bxr.below ⟨⟨by simp, by simp, by simp⟩, by simp, by simp, by simp⟩ hb3 (by simp)
  have hbz3 : Below w.heap.size w w3 := (hbz2.al (Nat.le_refl _) _).thn (Nat.le_refl _) hb3
  have hr3 := (ho2.rd.alloc (Nat.le_refl _) (.cells #[.slice (some ⟨w.heap.size, 0, none⟩) 4 4, .int .i64 4, .int .i64 0] 60)).below' hb3 (by simp)
  have hsz3 := hb3.size
  simp only [World.size_alloc] at hsz3
  have hs1 : w2.heap.size < w3.heap.size := by omega
  have hs2 : w2.heap.size < w3.heap.size + 1 := by omega
  obtain ⟨⟨p0, p1, p2⟩, f0, f1, f2⟩ := y1
  clear hb3 ho2
  go_wp2_with (with_reducible refine wpl_str rfl rfl (hr3.alloc (by omega) _) ?_)
  refine (end_any (some ⟨w.heap.size, 0, none⟩) 4 4 4 0 _).mono ?_
  rintro e w4 ⟨rfl, hb4⟩
  rw [E6.out]
  have y2 : Bxr w4 w3.heap.size none 0 0 1 2 := Bxr.below ⟨⟨by simp, by simp, by simp⟩, by simp, by simp, by simp⟩ hb4 (by simp)
  have hbz4 : Below w.heap.size w w4 := (hbz3.al (Nat.le_refl _) _).thn (Nat.le_refl _) hb4
  obtain ⟨⟨q0, q1, q2⟩, g0, g1, g2⟩ := y2
  clear hb4
  go_wp2_with fail
  refine (end_any none 0 0 1 2 _).mono ?_
  rintro e w5 ⟨rfl, hb5⟩
  rw [E7.out]
  go_wp2_with fail
  go_ret
  exact ⟨rfl, hbz4.thn (Nat.le_refl _) hb5⟩
end Go.Proofs.Ytodgnlhakafhoaa.Wr
