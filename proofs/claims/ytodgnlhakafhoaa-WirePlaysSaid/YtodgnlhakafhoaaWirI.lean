/- The layer wire: what the program's reader answers, each call in one sentence. -/
import Derived.Test.YtodgnlhakafhoaaWirH
namespace Go.Proofs.Ytodgnlhakafhoaa.Wr
open Go.ChangeShapes Go.WideShapes Go.ChangeAt Go.RowKit
open Num Mem

def byteAt (xs : List UInt8) (a : Int) : Nat := (xs.getD a.toNat 0).toNat
def blE (n : Nat) (xs : List UInt8) (a e : Int) : Int := if nxE n a e 1 ≠ 0 then nxE n a e 1 else if 1 < byteAt xs a then 11 else 0
def blN (n : Nat) (xs : List UInt8) (a e : Int) : Int := if blE n xs a e = 0 then byteAt xs a else 0
def blT (n : Nat) (xs : List UInt8) (a e : Int) : Int := if blE n xs a e = 0 then a + 1 else a
def lnN (most last n : Nat) (xs : List UInt8) (a e : Int) : Int := if lnE most last n xs a e = 0 then Vr.tkN most last xs a else 0
def lnT (most last n : Nat) (xs : List UInt8) (a e : Int) : Int := if lnE most last n xs a e = 0 then Vr.tkTo most last xs a else a
def fxY (n : Nat) (xs : List UInt8) (a e k : Int) : List UInt8 := if nxE n a e k = 0 then (xs.drop a.toNat).take (max k 0).toNat else []
def fxT (n : Nat) (a e k : Int) : Int := if nxE n a e k = 0 then a + max k 0 else a
def byY (n : Nat) (xs : List UInt8) (a e : Int) : List UInt8 := if byE n xs a e = 0 then byL xs a else []
def byT (n : Nat) (xs : List UInt8) (a e : Int) : Int := if byE n xs a e = 0 then Vr.tkTo 10 1 xs a + Vr.tkN 10 1 xs a else a
def txY (n : Nat) (xs : List UInt8) (a e : Int) : List UInt8 := if txE n xs a e = 0 then byL xs a else []
def txT (n : Nat) (xs : List UInt8) (a e : Int) : Int := if txE n xs a e = 0 then Vr.tkTo 10 1 xs a + Vr.tkN 10 1 xs a else a

section
variable (A : Option Addr) (n c B : Nat) (a e : Int) (xs : List UInt8) (w : World) (hr : Rd w B A n xs) (hB : B ≤ w.heap.size) (hnc : n ≤ c) (hn : n ≤ 1000000000)
include hr hB hnc hn
theorem bool_any : Calls Try.prog 46 #[.agg #[.slice A n c, .int .i64 a, .int .i64 e]] w fun e' w' => e' = .returned (.tuple #[.int .i64 (blN n xs a e), .agg #[.slice A n c, .int .i64 (blT n xs a e), .int .i64 (blE n xs a e)]]) ∧ Below w.heap.size w w' := by
  have hl := hr.len
  by_cases h1 : nxE n a e 1 = 0
  · obtain ⟨rfl, h2, h3, h4⟩ := nxE_zero h1
    obtain ⟨q, rfl⟩ := Int.eq_ofNat_of_zero_le h2
    obtain ⟨x, hx⟩ : ∃ x, xs[q]? = some x := ⟨xs[q]'(by omega), List.getElem?_eq_getElem (by omega)⟩
    have hb : byteAt xs q = x.toNat := by unfold byteAt; simp [List.getD, hx]
    by_cases h5 : 1 < x.toNat
    · have hE : blE n xs q 0 = 11 := by unfold blE; rw [if_neg (by simp [h1]), hb, if_pos h5]
      unfold blN blT
      rw [hE, if_neg (by omega), if_neg (by omega)]
      exact bool_no2 A n c B q xs x w hr hB hnc hn hx h5
    · have hE : blE n xs q 0 = 0 := by unfold blE; rw [if_neg (by simp [h1]), hb, if_neg h5]
      unfold blN blT
      rw [hE, if_pos rfl, if_pos rfl, hb]
      exact bool_ok A n c B q xs x w hr hB hnc hn hx h5
  · have hE : blE n xs a e = nxE n a e 1 := by unfold blE; rw [if_pos h1]
    unfold blN blT
    rw [hE, if_neg h1, if_neg h1]
    exact bool_no1 A n c a e w h1 hn
theorem long_any : Calls Try.prog 48 #[.agg #[.slice A n c, .int .i64 a, .int .i64 e]] w fun e' w' => e' = .returned (.tuple #[.int .i64 (lnN 10 1 n xs a e), .agg #[.slice A n c, .int .i64 (lnT 10 1 n xs a e), .int .i64 (lnE 10 1 n xs a e)]]) ∧ Below w.heap.size w w' := by
  unfold lnN lnT
  by_cases h1 : lnE 10 1 n xs a e = 0
  · rw [if_pos h1, if_pos h1]
    have h := long_ok A n c B a e xs w hr hB hnc hn h1
    rw [← h1] at h; exact h
  · rw [if_neg h1, if_neg h1]
    exact long_no A n c B a e xs w hr hB hnc hn h1
theorem int_any : Calls Try.prog 47 #[.agg #[.slice A n c, .int .i64 a, .int .i64 e]] w fun e' w' => e' = .returned (.tuple #[.int .i64 (lnN 5 15 n xs a e), .agg #[.slice A n c, .int .i64 (lnT 5 15 n xs a e), .int .i64 (lnE 5 15 n xs a e)]]) ∧ Below w.heap.size w w' := by
  unfold lnN lnT
  by_cases h1 : lnE 5 15 n xs a e = 0
  · rw [if_pos h1, if_pos h1]
    have h := int_ok A n c B a e xs w hr hB hnc hn h1
    rw [← h1] at h; exact h
  · rw [if_neg h1, if_neg h1]
    exact int_no A n c B a e xs w hr hB hnc hn h1
theorem fixed_any (k : Int) : Calls Try.prog 70 #[.agg #[.slice A n c, .int .i64 a, .int .i64 e], .int .i64 k] w fun e' w' => ∃ A' m, e' = .returned (.tuple #[.slice A' m m, .agg #[.slice A n c, .int .i64 (fxT n a e k), .int .i64 (nxE n a e k)]]) ∧ Rd w' w'.heap.size A' m (fxY n xs a e k) ∧ (0 < m → ∀ ad, A' = some ad → w.heap.size ≤ ad.block) ∧ Below w.heap.size w w' := by
  have hl := hr.len
  unfold fxY fxT
  by_cases h1 : nxE n a e k = 0
  · obtain ⟨rfl, h2, h3, h4⟩ := nxE_zero h1
    obtain ⟨q, rfl⟩ := Int.eq_ofNat_of_zero_le h2
    obtain ⟨m, hm⟩ := Int.eq_ofNat_of_zero_le (show 0 ≤ max k 0 by omega)
    rw [if_pos h1, if_pos h1, h1, hm, Int.toNat_natCast, Int.toNat_natCast]
    refine (fixed_ok A n c B q m k xs w hr hB hnc hn hm.symm (by omega)).mono ?_
    rintro e' w' ⟨A', rfl, ho, hb⟩
    exact ⟨A', m, by simp, ho.rd, fun _ ad e => (ho.block ad e).1, hb⟩
  · rw [if_neg h1, if_neg h1]
    refine (fixed_no A n c a e k w h1 hn).mono ?_
    rintro e' w' ⟨A', rfl, hb⟩
    exact ⟨A', 0, rfl, Rd.nil _ _ _, fun h => absurd h (by omega), hb⟩
theorem bytes_any : Calls Try.prog 50 #[.agg #[.slice A n c, .int .i64 a, .int .i64 e]] w fun e' w' => ∃ A' m, e' = .returned (.tuple #[.slice A' m m, .agg #[.slice A n c, .int .i64 (byT n xs a e), .int .i64 (byE n xs a e)]]) ∧ Rd w' w'.heap.size A' m (byY n xs a e) ∧ (0 < m → ∀ ad, A' = some ad → w.heap.size ≤ ad.block) ∧ Below w.heap.size w w' := by
  unfold byY byT
  by_cases h1 : byE n xs a e = 0
  · rw [if_pos h1, if_pos h1, h1]
    refine (bytes_ok A n c B a e xs w hr hB hnc hn h1).mono ?_
    rintro e' w' ⟨A', m, rfl, ho, hb⟩
    exact ⟨A', m, rfl, ho.rd, fun _ ad e => (ho.block ad e).1, hb⟩
  · rw [if_neg h1, if_neg h1]
    refine (bytes_no A n c B a e xs w hr hB hnc hn h1).mono ?_
    rintro e' w' ⟨rfl, hb⟩
    exact ⟨none, 0, rfl, Rd.nil _ _ _, fun h => absurd h (by omega), hb⟩
theorem text_any : Calls Try.prog 51 #[.agg #[.slice A n c, .int .i64 a, .int .i64 e]] w fun e' w' => ∃ A' m, e' = .returned (.tuple #[.slice A' m m, .agg #[.slice A n c, .int .i64 (txT n xs a e), .int .i64 (txE n xs a e)]]) ∧ Rd w' w'.heap.size A' m (txY n xs a e) ∧ (0 < m → ∀ ad, A' = some ad → w.heap.size ≤ ad.block) ∧ Below w.heap.size w w' := by
  have hl := hr.len
  have hbl : (byL xs a).length ≤ 1000000000 := by unfold byL; rw [List.length_take, List.length_drop]; omega
  unfold txY txT
  by_cases h1 : byE n xs a e = 0
  · by_cases h2 : (Ut.ucount (byL xs a)).isSome = true
    · have hE : txE n xs a e = 0 := by unfold txE; rw [if_neg (by simp [h1]), if_pos h2]
      rw [if_pos hE, if_pos hE, hE]
      refine (text_ok A n c B a e xs w hr hB hnc hn h1 hbl h2).mono ?_
      rintro e' w' ⟨A', m, rfl, ho, hb⟩
      exact ⟨A', m, rfl, ho.rd, fun _ ad e => (ho.block ad e).1, hb⟩
    · have hE : txE n xs a e = 11 := by unfold txE; rw [if_neg (by simp [h1]), if_neg h2]
      rw [if_neg (by omega), if_neg (by omega), hE]
      refine (text_n2 A n c B a e xs w hr hB hnc hn h1 hbl (by simpa using h2)).mono ?_
      rintro e' w' ⟨rfl, hb⟩
      exact ⟨none, 0, rfl, Rd.nil _ _ _, fun h => absurd h (by omega), hb⟩
  · have hE : txE n xs a e = byE n xs a e := by unfold txE; rw [if_pos h1]
    rw [hE, if_neg h1, if_neg h1]
    refine (text_n1 A n c B a e xs w hr hB hnc hn h1).mono ?_
    rintro e' w' ⟨rfl, hb⟩
    exact ⟨none, 0, rfl, Rd.nil _ _ _, fun h => absurd h (by omega), hb⟩
end
end Go.Proofs.Ytodgnlhakafhoaa.Wr
