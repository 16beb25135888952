/- The layer wire: a call of any kind. -/
import Derived.Test.YtodgnlhakafhoaaWirL
import Derived.Deep.CutBlock
namespace Go.Proofs.Ytodgnlhakafhoaa.Wr
open Go.ChangeShapes Go.WideShapes Go.ChangeAt Go.RowKit
open Num Mem

def rsE (k s : Int) (n : Nat) (xs : List UInt8) (a : Int) : Int :=
  if k = 0 then blE n xs a 0 else if k = 1 then lnE 5 15 n xs a 0 else if k = 2 then lnE 10 1 n xs a 0 else if k = 3 then nxE n a 0 (min s 8) else if k = 4 then nxE n a 0 s else if k = 5 then byE n xs a 0 else txE n xs a 0
def rsT (k s : Int) (n : Nat) (xs : List UInt8) (a : Int) : Int :=
  if k = 0 then blT n xs a 0 else if k = 1 then lnT 5 15 n xs a 0 else if k = 2 then lnT 10 1 n xs a 0 else if k = 3 then fxT n a 0 (min s 8) else if k = 4 then fxT n a 0 s else if k = 5 then byT n xs a 0 else txT n xs a 0
def rsN (k : Int) (n : Nat) (xs : List UInt8) (a : Int) : Int :=
  if k = 0 then blN n xs a 0 else if k = 1 then lnN 5 15 n xs a 0 else if k = 2 then lnN 10 1 n xs a 0 else 0
def rsU (k s : Int) (n : Nat) (xs : List UInt8) (a : Int) : Nat := if k = 3 then btU n xs a 0 s else 0
def rsY (k s : Int) (n : Nat) (xs : List UInt8) (a : Int) : List UInt8 :=
  if k = 0 then [] else if k = 1 then [] else if k = 2 then [] else if k = 3 then [] else if k = 4 then fxY n xs a 0 s else if k = 5 then byY n xs a 0 else txY n xs a 0

theorem _root_.Go.Proofs.Ytodgnlhakafhoaa.Mem.Rd.setOther {w : World} {B n : Nat} {A : Option Addr} {xs : List UInt8} (h : Rd w B A n xs) {g : Nat} (hF : 0 < n → ∀ ad, A = some ad → ad.block ≠ g) (i : Nat) (u : Value) : Rd (w.setCell ⟨g, i, none⟩ u) B A n xs := by
  refine ⟨h.1, fun hn => ?_⟩
  obtain ⟨b, o, hA, hb, hc⟩ := h.2 hn
  refine ⟨b, o, hA, hb, fun j x hx => ?_⟩
  have hne := hF hn _ hA
  exact (World.cell?_of_block (w := w) (heap_setCell_other w ⟨g, i, none⟩ b u hne)).trans (hc j x hx)
theorem results_cttt {P : Program} {fn : Func} {p u v x : Tmp} {ty : TypeId} (h : fn.results = #[.cell p ty, .tmp u, .tmp v, .tmp x]) (tmps : Array Value) (w : World) :
    (results fn tmps).run P w = ((asAddr (tmps.getD p undef)).run P w).andThen fun a w₁ => ((loadVar ty a).run P w₁).andThen fun y w₂ => .ok (.tuple #[y, tmps.getD u undef, tmps.getD v undef, tmps.getD x undef]) w₂ := by
  simp only [results, h]
  simp [Sem.run_bind, Result.andThen]
theorem ret_cttt {fn : Func} {p u v x : Tmp} (h : fn.results = #[.cell p 60, .tmp u, .tmp v, .tmp x]) {tmps : Array Value} {w : World} {g : Nat} {A : Option Addr} {n c : Nat} {a e : Int} (hp : tmps.getD p undef = .pointer (some ⟨g, 0, none⟩)) (hr : RdAt w g A n c a e) :
    (results fn tmps).run Try.prog w = .ok (.tuple #[rdv A n c a e, tmps.getD u undef, tmps.getD v undef, tmps.getD x undef]) w := by
  rw [results_cttt h, hp]
  simp only [asAddr, Sem.run_pure, Result.andThen_ok]
  rw [load_rd w g A n c a e hr]; simp only [Result.andThen_ok]

set_option maxRecDepth 100000 in
set_option maxHeartbeats 4000000 in
theorem reads_k0 (A : Option Addr) (n c : Nat) (a s : Int) (N T E : Int) (w : World)
    (hc : ∀ w1, Below w.heap.size w w1 → Calls Try.prog 46 #[.agg #[.slice A n c, .int .i64 a, .int .i64 0]] w1 fun e' w' => e' = .returned (.tuple #[.int .i64 N, .agg #[.slice A n c, .int .i64 T, .int .i64 E]]) ∧ Below w1.heap.size w1 w') :
    Calls Try.prog 45 #[.agg #[.int .i64 0, .int .i64 s], .agg #[.slice A n c, .int .i64 a, .int .i64 0]] w fun e' w' => ∃ A' m c', e' = .returned (.tuple #[.agg #[.slice A n c, .int .i64 T, .int .i64 E], .int .i64 N, .int .u64 0, .slice A' m c']) ∧ m ≤ c' ∧ Rd w' w'.heap.size A' m [] ∧ Below w.heap.size w w' := by
  have HC := Lib.hid hc
  clear hc
  go_enter Try.func45, Try.ntmps45
  go_wp2_with fail
  refine (HC.out _ (by repeat' (first | with_reducible exact Below.refl _ _ | with_reducible assumption | with_reducible refine Below.drew ?_ | with_reducible refine Below.setCell ?_ (by simp <;> omega) _ | with_reducible refine Below.alloc ?_ (by simp <;> omega) _))).mono ?_
  rintro e' w2 ⟨rfl, hb2⟩
  have x0 : Bxr (((w.alloc (.cells #[.int .i64 0, .int .i64 s] 67)).alloc (.cells #[.slice A n c, .int .i64 a, .int .i64 0] 60)).alloc (.cells #[.slice none 0 0, .int .i64 0, .int .i64 0] 60)) (w.heap.size + 1 + 1) none 0 0 0 0 := ⟨⟨by go_simp, by go_simp, by go_simp⟩, by go_simp, by go_simp, by go_simp⟩
  have x2 := x0.below hb2 (by simp <;> omega)
  have hbz : Below w.heap.size w w2 := ((((Below.refl _ _).al (Nat.le_refl _) _).al (Nat.le_refl _) _).al (Nat.le_refl _) _).thn (Nat.le_refl _) hb2
  obtain ⟨⟨q0, q1, q2⟩, g0, g1, g2⟩ := x2
  clear hb2
  go_upto_region 15 with fail
  have y3 : Bxr (((w2.setCell ⟨w.heap.size + 1 + 1, 0, none⟩ (.slice A n c)).setCell ⟨w.heap.size + 1 + 1, 1, none⟩ (.int .i64 T)).setCell ⟨w.heap.size + 1 + 1, 2, none⟩ (.int .i64 E)) (w.heap.size + 1 + 1) A n c T E := ⟨⟨by go_simp, by go_simp, by go_simp⟩, by go_simp, by go_simp, by go_simp⟩
  have hbz3 : Below w.heap.size w (((w2.setCell ⟨w.heap.size + 1 + 1, 0, none⟩ (.slice A n c)).setCell ⟨w.heap.size + 1 + 1, 1, none⟩ (.int .i64 T)).setCell ⟨w.heap.size + 1 + 1, 2, none⟩ (.int .i64 E)) := (by repeat' (first | with_reducible exact Below.refl _ _ | with_reducible assumption | with_reducible refine Below.drew ?_ | with_reducible refine Below.setCell ?_ (by simp <;> omega) _ | with_reducible refine Below.alloc ?_ (by simp <;> omega) _))
  have hsz3 : (((w2.setCell ⟨w.heap.size + 1 + 1, 0, none⟩ (.slice A n c)).setCell ⟨w.heap.size + 1 + 1, 1, none⟩ (.int .i64 T)).setCell ⟨w.heap.size + 1 + 1, 2, none⟩ (.int .i64 E)).heap.size = w2.heap.size := by simp
  obtain ⟨w3, hw3⟩ : ∃ w3, w3 = ((w2.setCell ⟨w.heap.size + 1 + 1, 0, none⟩ (.slice A n c)).setCell ⟨w.heap.size + 1 + 1, 1, none⟩ (.int .i64 T)).setCell ⟨w.heap.size + 1 + 1, 2, none⟩ (.int .i64 E) := ⟨_, rfl⟩
  rw [← hw3] at y3 hbz3 hsz3 ⊢
  clear hw3 hbz q0 q1 q2 g0 g1 g2 x0
  obtain ⟨⟨r0, r1, r2⟩, k0, k1, k2⟩ := y3
  go_wp2_with fail
  refine bodyPost_ret (ret_cttt (A := A) (n := n) (c := c) (a := T) (e := E) rfl rfl ⟨by go_simp, by go_simp, by go_simp⟩) rfl ⟨none, 0, 0, by simp [rdv], Nat.le_refl _, Rd.nil _ _ _, ?_⟩
  (repeat' (first | with_reducible exact Below.refl _ _ | with_reducible assumption | with_reducible refine Below.drew ?_ | with_reducible refine Below.setCell ?_ (by simp <;> omega) _ | with_reducible refine Below.alloc ?_ (by simp <;> omega) _))

set_option maxRecDepth 100000 in
set_option maxHeartbeats 4000000 in
theorem reads_k1 (A : Option Addr) (n c : Nat) (a s : Int) (N T E : Int) (w : World)
    (hc : ∀ w1, Below w.heap.size w w1 → Calls Try.prog 47 #[.agg #[.slice A n c, .int .i64 a, .int .i64 0]] w1 fun e' w' => e' = .returned (.tuple #[.int .i64 N, .agg #[.slice A n c, .int .i64 T, .int .i64 E]]) ∧ Below w1.heap.size w1 w') :
    Calls Try.prog 45 #[.agg #[.int .i64 1, .int .i64 s], .agg #[.slice A n c, .int .i64 a, .int .i64 0]] w fun e' w' => ∃ A' m c', e' = .returned (.tuple #[.agg #[.slice A n c, .int .i64 T, .int .i64 E], .int .i64 N, .int .u64 0, .slice A' m c']) ∧ m ≤ c' ∧ Rd w' w'.heap.size A' m [] ∧ Below w.heap.size w w' := by
  have HC := Lib.hid hc
  clear hc
  go_enter Try.func45, Try.ntmps45
  go_wp2_with fail
  refine (HC.out _ (by repeat' (first | with_reducible exact Below.refl _ _ | with_reducible assumption | with_reducible refine Below.drew ?_ | with_reducible refine Below.setCell ?_ (by simp <;> omega) _ | with_reducible refine Below.alloc ?_ (by simp <;> omega) _))).mono ?_
  rintro e' w2 ⟨rfl, hb2⟩
  have x0 : Bxr (((w.alloc (.cells #[.int .i64 1, .int .i64 s] 67)).alloc (.cells #[.slice A n c, .int .i64 a, .int .i64 0] 60)).alloc (.cells #[.slice none 0 0, .int .i64 0, .int .i64 0] 60)) (w.heap.size + 1 + 1) none 0 0 0 0 := ⟨⟨by go_simp, by go_simp, by go_simp⟩, by go_simp, by go_simp, by go_simp⟩
  have x2 := x0.below hb2 (by simp <;> omega)
  have hbz : Below w.heap.size w w2 := ((((Below.refl _ _).al (Nat.le_refl _) _).al (Nat.le_refl _) _).al (Nat.le_refl _) _).thn (Nat.le_refl _) hb2
  obtain ⟨⟨q0, q1, q2⟩, g0, g1, g2⟩ := x2
  clear hb2
  go_upto_region 15 with fail
  have y3 : Bxr (((w2.setCell ⟨w.heap.size + 1 + 1, 0, none⟩ (.slice A n c)).setCell ⟨w.heap.size + 1 + 1, 1, none⟩ (.int .i64 T)).setCell ⟨w.heap.size + 1 + 1, 2, none⟩ (.int .i64 E)) (w.heap.size + 1 + 1) A n c T E := ⟨⟨by go_simp, by go_simp, by go_simp⟩, by go_simp, by go_simp, by go_simp⟩
  have hbz3 : Below w.heap.size w (((w2.setCell ⟨w.heap.size + 1 + 1, 0, none⟩ (.slice A n c)).setCell ⟨w.heap.size + 1 + 1, 1, none⟩ (.int .i64 T)).setCell ⟨w.heap.size + 1 + 1, 2, none⟩ (.int .i64 E)) := (by repeat' (first | with_reducible exact Below.refl _ _ | with_reducible assumption | with_reducible refine Below.drew ?_ | with_reducible refine Below.setCell ?_ (by simp <;> omega) _ | with_reducible refine Below.alloc ?_ (by simp <;> omega) _))
  have hsz3 : (((w2.setCell ⟨w.heap.size + 1 + 1, 0, none⟩ (.slice A n c)).setCell ⟨w.heap.size + 1 + 1, 1, none⟩ (.int .i64 T)).setCell ⟨w.heap.size + 1 + 1, 2, none⟩ (.int .i64 E)).heap.size = w2.heap.size := by simp
  obtain ⟨w3, hw3⟩ : ∃ w3, w3 = ((w2.setCell ⟨w.heap.size + 1 + 1, 0, none⟩ (.slice A n c)).setCell ⟨w.heap.size + 1 + 1, 1, none⟩ (.int .i64 T)).setCell ⟨w.heap.size + 1 + 1, 2, none⟩ (.int .i64 E) := ⟨_, rfl⟩
  rw [← hw3] at y3 hbz3 hsz3 ⊢
  clear hw3 hbz q0 q1 q2 g0 g1 g2 x0
  obtain ⟨⟨r0, r1, r2⟩, k0, k1, k2⟩ := y3
  go_wp2_with fail
  refine bodyPost_ret (ret_cttt (A := A) (n := n) (c := c) (a := T) (e := E) rfl rfl ⟨by go_simp, by go_simp, by go_simp⟩) rfl ⟨none, 0, 0, by simp [rdv], Nat.le_refl _, Rd.nil _ _ _, ?_⟩
  (repeat' (first | with_reducible exact Below.refl _ _ | with_reducible assumption | with_reducible refine Below.drew ?_ | with_reducible refine Below.setCell ?_ (by simp <;> omega) _ | with_reducible refine Below.alloc ?_ (by simp <;> omega) _))

set_option maxRecDepth 100000 in
set_option maxHeartbeats 4000000 in
theorem reads_k2 (A : Option Addr) (n c : Nat) (a s : Int) (N T E : Int) (w : World)
    (hc : ∀ w1, Below w.heap.size w w1 → Calls Try.prog 48 #[.agg #[.slice A n c, .int .i64 a, .int .i64 0]] w1 fun e' w' => e' = .returned (.tuple #[.int .i64 N, .agg #[.slice A n c, .int .i64 T, .int .i64 E]]) ∧ Below w1.heap.size w1 w') :
    Calls Try.prog 45 #[.agg #[.int .i64 2, .int .i64 s], .agg #[.slice A n c, .int .i64 a, .int .i64 0]] w fun e' w' => ∃ A' m c', e' = .returned (.tuple #[.agg #[.slice A n c, .int .i64 T, .int .i64 E], .int .i64 N, .int .u64 0, .slice A' m c']) ∧ m ≤ c' ∧ Rd w' w'.heap.size A' m [] ∧ Below w.heap.size w w' := by
  have HC := Lib.hid hc
  clear hc
  go_enter Try.func45, Try.ntmps45
  go_wp2_with fail
  refine (HC.out _ (by repeat' (first | with_reducible exact Below.refl _ _ | with_reducible assumption | with_reducible refine Below.drew ?_ | with_reducible refine Below.setCell ?_ (by simp <;> omega) _ | with_reducible refine Below.alloc ?_ (by simp <;> omega) _))).mono ?_
  rintro e' w2 ⟨rfl, hb2⟩
  have x0 : Bxr (((w.alloc (.cells #[.int .i64 2, .int .i64 s] 67)).alloc (.cells #[.slice A n c, .int .i64 a, .int .i64 0] 60)).alloc (.cells #[.slice none 0 0, .int .i64 0, .int .i64 0] 60)) (w.heap.size + 1 + 1) none 0 0 0 0 := ⟨⟨by go_simp, by go_simp, by go_simp⟩, by go_simp, by go_simp, by go_simp⟩
  have x2 := x0.below hb2 (by simp <;> omega)
  have hbz : Below w.heap.size w w2 := ((((Below.refl _ _).al (Nat.le_refl _) _).al (Nat.le_refl _) _).al (Nat.le_refl _) _).thn (Nat.le_refl _) hb2
  obtain ⟨⟨q0, q1, q2⟩, g0, g1, g2⟩ := x2
  clear hb2
  go_upto_region 15 with fail
  have y3 : Bxr (((w2.setCell ⟨w.heap.size + 1 + 1, 0, none⟩ (.slice A n c)).setCell ⟨w.heap.size + 1 + 1, 1, none⟩ (.int .i64 T)).setCell ⟨w.heap.size + 1 + 1, 2, none⟩ (.int .i64 E)) (w.heap.size + 1 + 1) A n c T E := ⟨⟨by go_simp, by go_simp, by go_simp⟩, by go_simp, by go_simp, by go_simp⟩
  have hbz3 : Below w.heap.size w (((w2.setCell ⟨w.heap.size + 1 + 1, 0, none⟩ (.slice A n c)).setCell ⟨w.heap.size + 1 + 1, 1, none⟩ (.int .i64 T)).setCell ⟨w.heap.size + 1 + 1, 2, none⟩ (.int .i64 E)) := (by repeat' (first | with_reducible exact Below.refl _ _ | with_reducible assumption | with_reducible refine Below.drew ?_ | with_reducible refine Below.setCell ?_ (by simp <;> omega) _ | with_reducible refine Below.alloc ?_ (by simp <;> omega) _))
  have hsz3 : (((w2.setCell ⟨w.heap.size + 1 + 1, 0, none⟩ (.slice A n c)).setCell ⟨w.heap.size + 1 + 1, 1, none⟩ (.int .i64 T)).setCell ⟨w.heap.size + 1 + 1, 2, none⟩ (.int .i64 E)).heap.size = w2.heap.size := by simp
  obtain ⟨w3, hw3⟩ : ∃ w3, w3 = ((w2.setCell ⟨w.heap.size + 1 + 1, 0, none⟩ (.slice A n c)).setCell ⟨w.heap.size + 1 + 1, 1, none⟩ (.int .i64 T)).setCell ⟨w.heap.size + 1 + 1, 2, none⟩ (.int .i64 E) := ⟨_, rfl⟩
  rw [← hw3] at y3 hbz3 hsz3 ⊢
  clear hw3 hbz q0 q1 q2 g0 g1 g2 x0
  obtain ⟨⟨r0, r1, r2⟩, k0, k1, k2⟩ := y3
  go_wp2_with fail
  refine bodyPost_ret (ret_cttt (A := A) (n := n) (c := c) (a := T) (e := E) rfl rfl ⟨by go_simp, by go_simp, by go_simp⟩) rfl ⟨none, 0, 0, by simp [rdv], Nat.le_refl _, Rd.nil _ _ _, ?_⟩
  (repeat' (first | with_reducible exact Below.refl _ _ | with_reducible assumption | with_reducible refine Below.drew ?_ | with_reducible refine Below.setCell ?_ (by simp <;> omega) _ | with_reducible refine Below.alloc ?_ (by simp <;> omega) _))

set_option maxRecDepth 100000 in
set_option maxHeartbeats 4000000 in
theorem reads_k3 (A : Option Addr) (n c : Nat) (a s : Int) (U T E : Int) (w : World)
    (hc : ∀ w1, Below w.heap.size w w1 → Calls Try.prog 49 #[.agg #[.slice A n c, .int .i64 a, .int .i64 0], .int .i64 s] w1 fun e' w' => e' = .returned (.tuple #[.int .u64 U, .agg #[.slice A n c, .int .i64 T, .int .i64 E]]) ∧ Below w1.heap.size w1 w') :
    Calls Try.prog 45 #[.agg #[.int .i64 3, .int .i64 s], .agg #[.slice A n c, .int .i64 a, .int .i64 0]] w fun e' w' => ∃ A' m c', e' = .returned (.tuple #[.agg #[.slice A n c, .int .i64 T, .int .i64 E], .int .i64 0, .int .u64 U, .slice A' m c']) ∧ m ≤ c' ∧ Rd w' w'.heap.size A' m [] ∧ Below w.heap.size w w' := by
  have HC := Lib.hid hc
  clear hc
  go_enter Try.func45, Try.ntmps45
  go_wp2_with fail
  refine (HC.out _ (by repeat' (first | with_reducible exact Below.refl _ _ | with_reducible assumption | with_reducible refine Below.drew ?_ | with_reducible refine Below.setCell ?_ (by simp <;> omega) _ | with_reducible refine Below.alloc ?_ (by simp <;> omega) _))).mono ?_
  rintro e' w2 ⟨rfl, hb2⟩
  have x0 : Bxr (((w.alloc (.cells #[.int .i64 3, .int .i64 s] 67)).alloc (.cells #[.slice A n c, .int .i64 a, .int .i64 0] 60)).alloc (.cells #[.slice none 0 0, .int .i64 0, .int .i64 0] 60)) (w.heap.size + 1 + 1) none 0 0 0 0 := ⟨⟨by go_simp, by go_simp, by go_simp⟩, by go_simp, by go_simp, by go_simp⟩
  have x2 := x0.below hb2 (by simp <;> omega)
  have hbz : Below w.heap.size w w2 := ((((Below.refl _ _).al (Nat.le_refl _) _).al (Nat.le_refl _) _).al (Nat.le_refl _) _).thn (Nat.le_refl _) hb2
  obtain ⟨⟨q0, q1, q2⟩, g0, g1, g2⟩ := x2
  clear hb2
  go_upto_region 15 with fail
  have y3 : Bxr (((w2.setCell ⟨w.heap.size + 1 + 1, 0, none⟩ (.slice A n c)).setCell ⟨w.heap.size + 1 + 1, 1, none⟩ (.int .i64 T)).setCell ⟨w.heap.size + 1 + 1, 2, none⟩ (.int .i64 E)) (w.heap.size + 1 + 1) A n c T E := ⟨⟨by go_simp, by go_simp, by go_simp⟩, by go_simp, by go_simp, by go_simp⟩
  have hbz3 : Below w.heap.size w (((w2.setCell ⟨w.heap.size + 1 + 1, 0, none⟩ (.slice A n c)).setCell ⟨w.heap.size + 1 + 1, 1, none⟩ (.int .i64 T)).setCell ⟨w.heap.size + 1 + 1, 2, none⟩ (.int .i64 E)) := (by repeat' (first | with_reducible exact Below.refl _ _ | with_reducible assumption | with_reducible refine Below.drew ?_ | with_reducible refine Below.setCell ?_ (by simp <;> omega) _ | with_reducible refine Below.alloc ?_ (by simp <;> omega) _))
  have hsz3 : (((w2.setCell ⟨w.heap.size + 1 + 1, 0, none⟩ (.slice A n c)).setCell ⟨w.heap.size + 1 + 1, 1, none⟩ (.int .i64 T)).setCell ⟨w.heap.size + 1 + 1, 2, none⟩ (.int .i64 E)).heap.size = w2.heap.size := by simp
  obtain ⟨w3, hw3⟩ : ∃ w3, w3 = ((w2.setCell ⟨w.heap.size + 1 + 1, 0, none⟩ (.slice A n c)).setCell ⟨w.heap.size + 1 + 1, 1, none⟩ (.int .i64 T)).setCell ⟨w.heap.size + 1 + 1, 2, none⟩ (.int .i64 E) := ⟨_, rfl⟩
  rw [← hw3] at y3 hbz3 hsz3 ⊢
  clear hw3 hbz q0 q1 q2 g0 g1 g2 x0
  obtain ⟨⟨r0, r1, r2⟩, k0, k1, k2⟩ := y3
  go_wp2_with fail
  refine bodyPost_ret (ret_cttt (A := A) (n := n) (c := c) (a := T) (e := E) rfl rfl ⟨by go_simp, by go_simp, by go_simp⟩) rfl ⟨none, 0, 0, by simp [rdv], Nat.le_refl _, Rd.nil _ _ _, ?_⟩
  (repeat' (first | with_reducible exact Below.refl _ _ | with_reducible assumption | with_reducible refine Below.drew ?_ | with_reducible refine Below.setCell ?_ (by simp <;> omega) _ | with_reducible refine Below.alloc ?_ (by simp <;> omega) _))

set_option maxRecDepth 100000 in
set_option maxHeartbeats 4000000 in
theorem reads_k4 (A : Option Addr) (n c : Nat) (a s : Int) (T E : Int) (Y : List UInt8) (w : World)
    (hc : ∀ w1, Below w.heap.size w w1 → Calls Try.prog 70 #[.agg #[.slice A n c, .int .i64 a, .int .i64 0], .int .i64 s] w1 fun e' w' => ∃ A' m, e' = .returned (.tuple #[.slice A' m m, .agg #[.slice A n c, .int .i64 T, .int .i64 E]]) ∧ Rd w' w'.heap.size A' m Y ∧ (0 < m → ∀ ad, A' = some ad → w1.heap.size ≤ ad.block) ∧ Below w1.heap.size w1 w') :
    Calls Try.prog 45 #[.agg #[.int .i64 4, .int .i64 s], .agg #[.slice A n c, .int .i64 a, .int .i64 0]] w fun e' w' => ∃ A' m c', e' = .returned (.tuple #[.agg #[.slice A n c, .int .i64 T, .int .i64 E], .int .i64 0, .int .u64 0, .slice A' m c']) ∧ m ≤ c' ∧ Rd w' w'.heap.size A' m Y ∧ Below w.heap.size w w' := by
  have HC := Lib.hid hc
  clear hc
  go_enter Try.func45, Try.ntmps45
  go_wp2_with fail
  refine (HC.out _ (by repeat' (first | with_reducible exact Below.refl _ _ | with_reducible assumption | with_reducible refine Below.drew ?_ | with_reducible refine Below.setCell ?_ (by simp <;> omega) _ | with_reducible refine Below.alloc ?_ (by simp <;> omega) _))).mono ?_
  rintro e' w2 ⟨A2, m, rfl, hy, hF, hb2⟩
  have x0 : Bxr (((w.alloc (.cells #[.int .i64 4, .int .i64 s] 67)).alloc (.cells #[.slice A n c, .int .i64 a, .int .i64 0] 60)).alloc (.cells #[.slice none 0 0, .int .i64 0, .int .i64 0] 60)) (w.heap.size + 1 + 1) none 0 0 0 0 := ⟨⟨by go_simp, by go_simp, by go_simp⟩, by go_simp, by go_simp, by go_simp⟩
  have x2 := x0.below hb2 (by simp <;> omega)
  have hbz : Below w.heap.size w w2 := ((((Below.refl _ _).al (Nat.le_refl _) _).al (Nat.le_refl _) _).al (Nat.le_refl _) _).thn (Nat.le_refl _) hb2
  obtain ⟨⟨q0, q1, q2⟩, g0, g1, g2⟩ := x2
  clear hb2
  go_upto_region 15 with fail
  have y3 : Bxr (((w2.setCell ⟨w.heap.size + 1 + 1, 0, none⟩ (.slice A n c)).setCell ⟨w.heap.size + 1 + 1, 1, none⟩ (.int .i64 T)).setCell ⟨w.heap.size + 1 + 1, 2, none⟩ (.int .i64 E)) (w.heap.size + 1 + 1) A n c T E := ⟨⟨by go_simp, by go_simp, by go_simp⟩, by go_simp, by go_simp, by go_simp⟩
  have hbz3 : Below w.heap.size w (((w2.setCell ⟨w.heap.size + 1 + 1, 0, none⟩ (.slice A n c)).setCell ⟨w.heap.size + 1 + 1, 1, none⟩ (.int .i64 T)).setCell ⟨w.heap.size + 1 + 1, 2, none⟩ (.int .i64 E)) := (by repeat' (first | with_reducible exact Below.refl _ _ | with_reducible assumption | with_reducible refine Below.drew ?_ | with_reducible refine Below.setCell ?_ (by simp <;> omega) _ | with_reducible refine Below.alloc ?_ (by simp <;> omega) _))
  have hsz3 : (((w2.setCell ⟨w.heap.size + 1 + 1, 0, none⟩ (.slice A n c)).setCell ⟨w.heap.size + 1 + 1, 1, none⟩ (.int .i64 T)).setCell ⟨w.heap.size + 1 + 1, 2, none⟩ (.int .i64 E)).heap.size = w2.heap.size := by simp
  simp only [World.size_alloc] at hF
  have hF2 : 0 < m → ∀ ad, A2 = some ad → ad.block ≠ w.heap.size + 1 + 1 := fun h ad e => by have := hF h ad e; omega
  have hy2 := ((hy.setOther hF2 0 (.slice A n c)).setOther hF2 1 (.int .i64 T)).setOther hF2 2 (.int .i64 E)
  have HF2 := Lib.hid hF2
  clear hF hF2 hy
  obtain ⟨w3, hw3⟩ : ∃ w3, w3 = ((w2.setCell ⟨w.heap.size + 1 + 1, 0, none⟩ (.slice A n c)).setCell ⟨w.heap.size + 1 + 1, 1, none⟩ (.int .i64 T)).setCell ⟨w.heap.size + 1 + 1, 2, none⟩ (.int .i64 E) := ⟨_, rfl⟩
  rw [← hw3] at y3 hbz3 hsz3 ⊢
  rw [← hw3] at hy2
  clear hw3 hbz q0 q1 q2 g0 g1 g2 x0
  obtain ⟨⟨r0, r1, r2⟩, k0, k1, k2⟩ := y3
  go_wp2_with fail
  refine bodyPost_ret (ret_cttt (A := A) (n := n) (c := c) (a := T) (e := E) rfl rfl ⟨by go_simp, by go_simp, by go_simp⟩) rfl ⟨A2, m, m, by simp [rdv], Nat.le_refl _, Rd.more (((hy2.setOther HF2.out _ _).setOther HF2.out _ _).setOther HF2.out _ _) (by simp only [World.size_setCell]; omega), ?_⟩
  (repeat' (first | with_reducible exact Below.refl _ _ | with_reducible assumption | with_reducible refine Below.drew ?_ | with_reducible refine Below.setCell ?_ (by simp <;> omega) _ | with_reducible refine Below.alloc ?_ (by simp <;> omega) _))

set_option maxRecDepth 100000 in
set_option maxHeartbeats 4000000 in
theorem reads_k5 (A : Option Addr) (n c : Nat) (a s : Int) (T E : Int) (Y : List UInt8) (w : World)
    (hc : ∀ w1, Below w.heap.size w w1 → Calls Try.prog 50 #[.agg #[.slice A n c, .int .i64 a, .int .i64 0]] w1 fun e' w' => ∃ A' m, e' = .returned (.tuple #[.slice A' m m, .agg #[.slice A n c, .int .i64 T, .int .i64 E]]) ∧ Rd w' w'.heap.size A' m Y ∧ (0 < m → ∀ ad, A' = some ad → w1.heap.size ≤ ad.block) ∧ Below w1.heap.size w1 w') :
    Calls Try.prog 45 #[.agg #[.int .i64 5, .int .i64 s], .agg #[.slice A n c, .int .i64 a, .int .i64 0]] w fun e' w' => ∃ A' m c', e' = .returned (.tuple #[.agg #[.slice A n c, .int .i64 T, .int .i64 E], .int .i64 0, .int .u64 0, .slice A' m c']) ∧ m ≤ c' ∧ Rd w' w'.heap.size A' m Y ∧ Below w.heap.size w w' := by
  have HC := Lib.hid hc
  clear hc
  go_enter Try.func45, Try.ntmps45
  go_wp2_with fail
  refine (HC.out _ (by repeat' (first | with_reducible exact Below.refl _ _ | with_reducible assumption | with_reducible refine Below.drew ?_ | with_reducible refine Below.setCell ?_ (by simp <;> omega) _ | with_reducible refine Below.alloc ?_ (by simp <;> omega) _))).mono ?_
  rintro e' w2 ⟨A2, m, rfl, hy, hF, hb2⟩
  have x0 : Bxr (((w.alloc (.cells #[.int .i64 5, .int .i64 s] 67)).alloc (.cells #[.slice A n c, .int .i64 a, .int .i64 0] 60)).alloc (.cells #[.slice none 0 0, .int .i64 0, .int .i64 0] 60)) (w.heap.size + 1 + 1) none 0 0 0 0 := ⟨⟨by go_simp, by go_simp, by go_simp⟩, by go_simp, by go_simp, by go_simp⟩
  have x2 := x0.below hb2 (by simp <;> omega)
  have hbz : Below w.heap.size w w2 := ((((Below.refl _ _).al (Nat.le_refl _) _).al (Nat.le_refl _) _).al (Nat.le_refl _) _).thn (Nat.le_refl _) hb2
  obtain ⟨⟨q0, q1, q2⟩, g0, g1, g2⟩ := x2
  clear hb2
  go_upto_region 15 with fail
  have y3 : Bxr (((w2.setCell ⟨w.heap.size + 1 + 1, 0, none⟩ (.slice A n c)).setCell ⟨w.heap.size + 1 + 1, 1, none⟩ (.int .i64 T)).setCell ⟨w.heap.size + 1 + 1, 2, none⟩ (.int .i64 E)) (w.heap.size + 1 + 1) A n c T E := ⟨⟨by go_simp, by go_simp, by go_simp⟩, by go_simp, by go_simp, by go_simp⟩
  have hbz3 : Below w.heap.size w (((w2.setCell ⟨w.heap.size + 1 + 1, 0, none⟩ (.slice A n c)).setCell ⟨w.heap.size + 1 + 1, 1, none⟩ (.int .i64 T)).setCell ⟨w.heap.size + 1 + 1, 2, none⟩ (.int .i64 E)) := (by repeat' (first | with_reducible exact Below.refl _ _ | with_reducible assumption | with_reducible refine Below.drew ?_ | with_reducible refine Below.setCell ?_ (by simp <;> omega) _ | with_reducible refine Below.alloc ?_ (by simp <;> omega) _))
  have hsz3 : (((w2.setCell ⟨w.heap.size + 1 + 1, 0, none⟩ (.slice A n c)).setCell ⟨w.heap.size + 1 + 1, 1, none⟩ (.int .i64 T)).setCell ⟨w.heap.size + 1 + 1, 2, none⟩ (.int .i64 E)).heap.size = w2.heap.size := by simp
  simp only [World.size_alloc] at hF
  have hF2 : 0 < m → ∀ ad, A2 = some ad → ad.block ≠ w.heap.size + 1 + 1 := fun h ad e => by have := hF h ad e; omega
  have hy2 := ((hy.setOther hF2 0 (.slice A n c)).setOther hF2 1 (.int .i64 T)).setOther hF2 2 (.int .i64 E)
  have HF2 := Lib.hid hF2
  clear hF hF2 hy
  obtain ⟨w3, hw3⟩ : ∃ w3, w3 = ((w2.setCell ⟨w.heap.size + 1 + 1, 0, none⟩ (.slice A n c)).setCell ⟨w.heap.size + 1 + 1, 1, none⟩ (.int .i64 T)).setCell ⟨w.heap.size + 1 + 1, 2, none⟩ (.int .i64 E) := ⟨_, rfl⟩
  rw [← hw3] at y3 hbz3 hsz3 ⊢
  rw [← hw3] at hy2
  clear hw3 hbz q0 q1 q2 g0 g1 g2 x0
  obtain ⟨⟨r0, r1, r2⟩, k0, k1, k2⟩ := y3
  go_wp2_with fail
  refine bodyPost_ret (ret_cttt (A := A) (n := n) (c := c) (a := T) (e := E) rfl rfl ⟨by go_simp, by go_simp, by go_simp⟩) rfl ⟨A2, m, m, by simp [rdv], Nat.le_refl _, Rd.more (((hy2.setOther HF2.out _ _).setOther HF2.out _ _).setOther HF2.out _ _) (by simp only [World.size_setCell]; omega), ?_⟩
  (repeat' (first | with_reducible exact Below.refl _ _ | with_reducible assumption | with_reducible refine Below.drew ?_ | with_reducible refine Below.setCell ?_ (by simp <;> omega) _ | with_reducible refine Below.alloc ?_ (by simp <;> omega) _))

set_option maxRecDepth 100000 in
set_option maxHeartbeats 4000000 in
theorem reads_k6 (A : Option Addr) (n c : Nat) (k : Int) (hk0 : (k == 0) = false) (hk1 : (k == 1) = false) (hk2 : (k == 2) = false) (hk3 : (k == 3) = false) (hk4 : (k == 4) = false) (hk5 : (k == 5) = false) (a s : Int) (T E : Int) (Y : List UInt8) (w : World)
    (hc : ∀ w1, Below w.heap.size w w1 → Calls Try.prog 51 #[.agg #[.slice A n c, .int .i64 a, .int .i64 0]] w1 fun e' w' => ∃ A' m, e' = .returned (.tuple #[.slice A' m m, .agg #[.slice A n c, .int .i64 T, .int .i64 E]]) ∧ Rd w' w'.heap.size A' m Y ∧ (0 < m → ∀ ad, A' = some ad → w1.heap.size ≤ ad.block) ∧ Below w1.heap.size w1 w') :
    Calls Try.prog 45 #[.agg #[.int .i64 k, .int .i64 s], .agg #[.slice A n c, .int .i64 a, .int .i64 0]] w fun e' w' => ∃ A' m c', e' = .returned (.tuple #[.agg #[.slice A n c, .int .i64 T, .int .i64 E], .int .i64 0, .int .u64 0, .slice A' m c']) ∧ m ≤ c' ∧ Rd w' w'.heap.size A' m Y ∧ Below w.heap.size w w' := by
  have HC := Lib.hid hc
  clear hc
  go_enter Try.func45, Try.ntmps45
  go_wp2_with fail
  refine (HC.out _ (by repeat' (first | with_reducible exact Below.refl _ _ | with_reducible assumption | with_reducible refine Below.drew ?_ | with_reducible refine Below.setCell ?_ (by simp <;> omega) _ | with_reducible refine Below.alloc ?_ (by simp <;> omega) _))).mono ?_
  rintro e' w2 ⟨A2, m, rfl, hy, hF, hb2⟩
  have x0 : Bxr (((w.alloc (.cells #[.int .i64 k, .int .i64 s] 67)).alloc (.cells #[.slice A n c, .int .i64 a, .int .i64 0] 60)).alloc (.cells #[.slice none 0 0, .int .i64 0, .int .i64 0] 60)) (w.heap.size + 1 + 1) none 0 0 0 0 := ⟨⟨by go_simp, by go_simp, by go_simp⟩, by go_simp, by go_simp, by go_simp⟩
  have x2 := x0.below hb2 (by simp <;> omega)
  have hbz : Below w.heap.size w w2 := ((((Below.refl _ _).al (Nat.le_refl _) _).al (Nat.le_refl _) _).al (Nat.le_refl _) _).thn (Nat.le_refl _) hb2
  obtain ⟨⟨q0, q1, q2⟩, g0, g1, g2⟩ := x2
  clear hb2
  go_upto_region 15 with fail
  have y3 : Bxr (((w2.setCell ⟨w.heap.size + 1 + 1, 0, none⟩ (.slice A n c)).setCell ⟨w.heap.size + 1 + 1, 1, none⟩ (.int .i64 T)).setCell ⟨w.heap.size + 1 + 1, 2, none⟩ (.int .i64 E)) (w.heap.size + 1 + 1) A n c T E := ⟨⟨by go_simp, by go_simp, by go_simp⟩, by go_simp, by go_simp, by go_simp⟩
  have hbz3 : Below w.heap.size w (((w2.setCell ⟨w.heap.size + 1 + 1, 0, none⟩ (.slice A n c)).setCell ⟨w.heap.size + 1 + 1, 1, none⟩ (.int .i64 T)).setCell ⟨w.heap.size + 1 + 1, 2, none⟩ (.int .i64 E)) := (by repeat' (first | with_reducible exact Below.refl _ _ | with_reducible assumption | with_reducible refine Below.drew ?_ | with_reducible refine Below.setCell ?_ (by simp <;> omega) _ | with_reducible refine Below.alloc ?_ (by simp <;> omega) _))
  have hsz3 : (((w2.setCell ⟨w.heap.size + 1 + 1, 0, none⟩ (.slice A n c)).setCell ⟨w.heap.size + 1 + 1, 1, none⟩ (.int .i64 T)).setCell ⟨w.heap.size + 1 + 1, 2, none⟩ (.int .i64 E)).heap.size = w2.heap.size := by simp
  simp only [World.size_alloc] at hF
  have hF2 : 0 < m → ∀ ad, A2 = some ad → ad.block ≠ w.heap.size + 1 + 1 := fun h ad e => by have := hF h ad e; omega
  have hy2 := ((hy.setOther hF2 0 (.slice A n c)).setOther hF2 1 (.int .i64 T)).setOther hF2 2 (.int .i64 E)
  have HF2 := Lib.hid hF2
  clear hF hF2 hy
  obtain ⟨w3, hw3⟩ : ∃ w3, w3 = ((w2.setCell ⟨w.heap.size + 1 + 1, 0, none⟩ (.slice A n c)).setCell ⟨w.heap.size + 1 + 1, 1, none⟩ (.int .i64 T)).setCell ⟨w.heap.size + 1 + 1, 2, none⟩ (.int .i64 E) := ⟨_, rfl⟩
  rw [← hw3] at y3 hbz3 hsz3 ⊢
  rw [← hw3] at hy2
  clear hw3 hbz q0 q1 q2 g0 g1 g2 x0
  obtain ⟨⟨r0, r1, r2⟩, k0, k1, k2⟩ := y3
  go_wp2_with fail
  refine bodyPost_ret (ret_cttt (A := A) (n := n) (c := c) (a := T) (e := E) rfl rfl ⟨by go_simp, by go_simp, by go_simp⟩) rfl ⟨A2, m, m, by simp [rdv], Nat.le_refl _, Rd.more (((hy2.setOther HF2.out _ _).setOther HF2.out _ _).setOther HF2.out _ _) (by simp only [World.size_setCell]; omega), ?_⟩
  (repeat' (first | with_reducible exact Below.refl _ _ | with_reducible assumption | with_reducible refine Below.drew ?_ | with_reducible refine Below.setCell ?_ (by simp <;> omega) _ | with_reducible refine Below.alloc ?_ (by simp <;> omega) _))
end Go.Proofs.Ytodgnlhakafhoaa.Wr
