/- The layer wire: a call of any kind, and more bytes behind. -/
import Derived.Test.YtodgnlhakafhoaaWirK
namespace Go.Proofs.Ytodgnlhakafhoaa.Wr
open Go.ChangeShapes Go.WideShapes Go.ChangeAt Go.RowKit
open Num Mem

theorem reads_any (A : Option Addr) (n c B : Nat) (a k s : Int) (xs : List UInt8) (w : World) (hr : Rd w B A n xs) (hB : B ≤ w.heap.size) (hnc : n ≤ c) (hn : n ≤ 1000000000) :
    Calls Try.prog 45 #[.agg #[.int .i64 k, .int .i64 s], .agg #[.slice A n c, .int .i64 a, .int .i64 0]] w fun e' w' => ∃ A' m c', e' = .returned (.tuple #[.agg #[.slice A n c, .int .i64 (rsT k s n xs a), .int .i64 (rsE k s n xs a)], .int .i64 (rsN k n xs a), .int .u64 (rsU k s n xs a), .slice A' m c']) ∧ m ≤ c' ∧ Rd w' w'.heap.size A' m (rsY k s n xs a) ∧ Below w.heap.size w w' := by
  have hrb : ∀ w', Below w.heap.size w w' → Rd w' B A n xs := fun _ h => hr.below' h hB
  have hbb : ∀ w', Below w.heap.size w w' → B ≤ w'.heap.size := fun _ h => Nat.le_trans hB h.size
  by_cases k0 : k = 0
  · subst k0
    exact reads_k0 A n c a s _ _ _ w (fun w1 h => bool_any A n c B a 0 xs w1 (hrb w1 h) (hbb w1 h) hnc hn)
  by_cases k1 : k = 1
  · subst k1
    exact reads_k1 A n c a s _ _ _ w (fun w1 h => int_any A n c B a 0 xs w1 (hrb w1 h) (hbb w1 h) hnc hn)
  by_cases k2 : k = 2
  · subst k2
    exact reads_k2 A n c a s _ _ _ w (fun w1 h => long_any A n c B a 0 xs w1 (hrb w1 h) (hbb w1 h) hnc hn)
  by_cases k3 : k = 3
  · subst k3
    exact reads_k3 A n c a s _ _ _ w (fun w1 h => bits_any A n c B a 0 xs w1 (hrb w1 h) (hbb w1 h) hnc hn s)
  by_cases k4 : k = 4
  · subst k4
    exact reads_k4 A n c a s _ _ _ w (fun w1 h => fixed_any A n c B a 0 xs w1 (hrb w1 h) (hbb w1 h) hnc hn s)
  by_cases k5 : k = 5
  · subst k5
    exact reads_k5 A n c a s _ _ _ w (fun w1 h => bytes_any A n c B a 0 xs w1 (hrb w1 h) (hbb w1 h) hnc hn)
  · have e1 : rsE k s n xs a = txE n xs a 0 := by unfold rsE; rw [if_neg k0, if_neg k1, if_neg k2, if_neg k3, if_neg k4, if_neg k5]
    have e2 : rsT k s n xs a = txT n xs a 0 := by unfold rsT; rw [if_neg k0, if_neg k1, if_neg k2, if_neg k3, if_neg k4, if_neg k5]
    have e3 : rsY k s n xs a = txY n xs a 0 := by unfold rsY; rw [if_neg k0, if_neg k1, if_neg k2, if_neg k3, if_neg k4, if_neg k5]
    have e4 : rsN k n xs a = 0 := by unfold rsN; rw [if_neg k0, if_neg k1, if_neg k2]
    have e5 : rsU k s n xs a = 0 := by unfold rsU; rw [if_neg k3]
    rw [e1, e2, e3, e4, e5]
    exact reads_k6 A n c k (by simp [k0]) (by simp [k1]) (by simp [k2]) (by simp [k3]) (by simp [k4]) (by simp [k5]) a s _ _ _ w (fun w1 h => text_any A n c B a 0 xs w1 (hrb w1 h) (hbb w1 h) hnc hn)

theorem rs_short {k s : Int} {n : Nat} {xs : List UInt8} {a : Int} (h : rsE k s n xs a = 10) : rsN k n xs a = 0 ∧ rsU k s n xs a = 0 ∧ rsY k s n xs a = [] := by
  unfold rsE at h
  by_cases k0 : k = 0
  · rw [if_pos k0] at h
    subst k0
    exact ⟨by show blN n xs a 0 = 0; unfold blN; rw [h]; rfl, rfl, rfl⟩
  rw [if_neg k0] at h
  by_cases k1 : k = 1
  · rw [if_pos k1] at h
    subst k1
    exact ⟨by show lnN 5 15 n xs a 0 = 0; unfold lnN; rw [h]; rfl, rfl, rfl⟩
  rw [if_neg k1] at h
  by_cases k2 : k = 2
  · rw [if_pos k2] at h
    subst k2
    exact ⟨by show lnN 10 1 n xs a 0 = 0; unfold lnN; rw [h]; rfl, rfl, rfl⟩
  rw [if_neg k2] at h
  by_cases k3 : k = 3
  · rw [if_pos k3] at h
    subst k3
    exact ⟨rfl, by show btU n xs a 0 s = 0; unfold btU; rw [h]; rfl, rfl⟩
  rw [if_neg k3] at h
  by_cases k4 : k = 4
  · rw [if_pos k4] at h
    subst k4
    exact ⟨rfl, rfl, by show fxY n xs a 0 s = []; unfold fxY; rw [h]; rfl⟩
  rw [if_neg k4] at h
  by_cases k5 : k = 5
  · rw [if_pos k5] at h
    subst k5
    exact ⟨rfl, rfl, by show byY n xs a 0 = []; unfold byY; rw [h]; rfl⟩
  rw [if_neg k5] at h
  refine ⟨by unfold rsN; rw [if_neg k0, if_neg k1, if_neg k2], by unfold rsU; rw [if_neg k3], ?_⟩
  unfold rsY
  rw [if_neg k0, if_neg k1, if_neg k2, if_neg k3, if_neg k4, if_neg k5]
  unfold txY; rw [h]; rfl

theorem bt_more {n n' p : Nat} {xs ts : List UInt8} (hl : xs.length = n) (hl' : n' = n + ts.length) (hp : p ≤ n) {k : Int} (h : nxE n p 0 (min k 8) ≠ 10) : btU n' (xs ++ ts) p 0 k = btU n xs p 0 k := by
  obtain ⟨h1, h2, h3⟩ := nxE_more hl' hp h
  unfold btU
  rw [h1, h2]
  simp only [if_true]
  rw [Int.toNat_natCast, List.drop_append_of_le_length (by omega), List.take_append_of_le_length (by rw [List.length_drop]; omega)]

theorem rs_more {k s : Int} {n n' p : Nat} {xs ts : List UInt8} (hl : xs.length = n) (hl' : n' = n + ts.length) (hp : p ≤ n) (h : rsE k s n xs p ≠ 10) :
    rsE k s n' (xs ++ ts) p = rsE k s n xs p ∧ rsT k s n' (xs ++ ts) p = rsT k s n xs p ∧ rsN k n' (xs ++ ts) p = rsN k n xs p ∧ rsU k s n' (xs ++ ts) p = rsU k s n xs p ∧ rsY k s n' (xs ++ ts) p = rsY k s n xs p := by
  unfold rsE at h
  by_cases k0 : k = 0
  · rw [if_pos k0] at h
    subst k0
    obtain ⟨h1, h2, h3⟩ := bl_more hl hl' hp h
    exact ⟨h1, h2, h3, rfl, rfl⟩
  rw [if_neg k0] at h
  by_cases k1 : k = 1
  · rw [if_pos k1] at h
    subst k1
    obtain ⟨h1, h2, h3, _⟩ := ln_more hl hl' hp h
    exact ⟨h1, h2, h3, rfl, rfl⟩
  rw [if_neg k1] at h
  by_cases k2 : k = 2
  · rw [if_pos k2] at h
    subst k2
    obtain ⟨h1, h2, h3, _⟩ := ln_more hl hl' hp h
    exact ⟨h1, h2, h3, rfl, rfl⟩
  rw [if_neg k2] at h
  by_cases k3 : k = 3
  · rw [if_pos k3] at h
    subst k3
    obtain ⟨h1, h2, _⟩ := fx_more hl hl' hp h
    exact ⟨h1, h2, rfl, bt_more hl hl' hp h, rfl⟩
  rw [if_neg k3] at h
  by_cases k4 : k = 4
  · rw [if_pos k4] at h
    subst k4
    obtain ⟨h1, h2, h3⟩ := fx_more hl hl' hp h
    exact ⟨h1, h2, rfl, rfl, h3⟩
  rw [if_neg k4] at h
  by_cases k5 : k = 5
  · rw [if_pos k5] at h
    subst k5
    obtain ⟨h1, h2, h3⟩ := by_more hl hl' hp h
    exact ⟨h1, h2, rfl, rfl, h3⟩
  rw [if_neg k5] at h
  obtain ⟨h1, h2, h3⟩ := tx_more hl hl' hp h
  unfold rsE rsT rsN rsU rsY
  rw [if_neg k0, if_neg k1, if_neg k2, if_neg k3, if_neg k4, if_neg k5, if_neg k0, if_neg k1, if_neg k2, if_neg k3, if_neg k4, if_neg k5, h1, h2, h3]
  simp [k0, k1, k2, k3, k4, k5]

def RdAskAt (w : World) (g : Nat) (k s : Int) : Prop := w.cell? ⟨g, 0, none⟩ = some (.int .i64 k) ∧ w.cell? ⟨g, 1, none⟩ = some (.int .i64 s)
theorem RdAskAt.below {w w' : World} {g B : Nat} {k s : Int} (h : RdAskAt w g k s) (hb : Below B w w') (hg : g < B) : RdAskAt w' g k s :=
  ⟨(hb.cell hg).trans h.1, (hb.cell hg).trans h.2⟩
end Go.Proofs.Ytodgnlhakafhoaa.Wr
