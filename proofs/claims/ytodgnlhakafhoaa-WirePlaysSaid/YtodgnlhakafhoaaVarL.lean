/- The layer varint: Take, TakeInt, the document's Long and Int, and the chapter's examples. -/
import Derived.Test.YtodgnlhakafhoaaVarR
namespace Go.Proofs.Ytodgnlhakafhoaa.Vr
open Go.ChangeShapes Go.WideShapes Go.ChangeAt Go.RowKit
open Num Zg Mem

theorem tkN_out {most last : Nat} {xs : List UInt8} {p : Int} (h : p < 0 ∨ (xs.length : Int) < p) : tkN most last xs p = 0 := by unfold tkN; rw [if_neg (by omega)]
theorem tkTo_out {most last : Nat} {xs : List UInt8} {p : Int} (h : p < 0 ∨ (xs.length : Int) < p) : tkTo most last xs p = p := by unfold tkTo; rw [if_neg (by omega)]
theorem tkE_out {most last : Nat} {xs : List UInt8} {p : Int} (h : p < 0 ∨ (xs.length : Int) < p) : tkE most last xs p = 2 := by unfold tkE; rw [if_neg (by omega)]
theorem tkN_in {most last : Nat} {xs : List UInt8} {p : Nat} (h : p ≤ xs.length) : tkN most last xs p = zag (tk most last 0 0 (xs.drop p)).1 := by
  unfold tkN; rw [if_pos (by omega), Int.toNat_natCast]
theorem tkTo_in {most last : Nat} {xs : List UInt8} {p : Nat} (h : p ≤ xs.length) : tkTo most last xs p = p + (tk most last 0 0 (xs.drop p)).2.1 := by
  unfold tkTo; rw [if_pos (by omega), Int.toNat_natCast]
theorem tkE_in {most last : Nat} {xs : List UInt8} {p : Nat} (h : p ≤ xs.length) : tkE most last xs p = (tk most last 0 0 (xs.drop p)).2.2 := by
  unfold tkE; rw [if_pos (by omega), Int.toNat_natCast]

theorem reftake_out (A : Option Addr) (n c : Nat) (p : Int) (most last : Int) (w : World) (hp : p < 0 ∨ (n : Int) < p) :
    Calls Try.prog 54 #[.slice A n c, .int .i64 p, .int .i64 most, .int .u8 last] w fun e w' => e = .returned (.tuple #[.int .i64 0, .int .i64 p, .int .i64 2]) ∧ w = w' := by
  by_cases h : p < 0
  · go_enter Try.func54, Try.ntmps54
    go_wp2
    go_ret3
    exact ⟨rfl, rfl⟩
  · have h2 : (n : Int) < p := by omega
    go_enter Try.func54, Try.ntmps54
    go_wp2
    go_ret3
    exact ⟨rfl, rfl⟩

/-- the document's Take, at whatever place -/
theorem reftake_all (A : Option Addr) (n c B : Nat) (p : Int) (xs : List UInt8) (most last : Nat) (w : World) (hr : Rd w B A n xs) (hn : n ≤ 1000000000)
    (hm1 : 2 ≤ most) (hm : most ≤ 9 ∨ most = 10 ∧ last ≤ 1) (hlast : last < 128) :
    Calls Try.prog 54 #[.slice A n c, .int .i64 p, .int .i64 (most : Int), .int .u8 (last : Int)] w fun e w' =>
      e = .returned (.tuple #[.int .i64 (tkN most last xs p), .int .i64 (tkTo most last xs p), .int .i64 (tkE most last xs p)]) ∧ w = w' := by
  have hl := hr.len
  by_cases h : p < 0 ∨ (n : Int) < p
  · rw [tkN_out (by omega), tkTo_out (by omega), tkE_out (by omega)]
    exact reftake_out A n c p most last w h
  · obtain ⟨q, rfl⟩ := Int.eq_ofNat_of_zero_le (show 0 ≤ p by omega)
    rw [tkN_in (by omega), tkTo_in (by omega), tkE_in (by omega)]
    exact reftake_any A n c B q xs most last w hr (by omega) hn hm1 hm hlast

theorem long_any (A : Option Addr) (n c B : Nat) (p : Int) (xs : List UInt8) (w : World) (hr : Rd w B A n xs) (hn : n ≤ 1000000000) :
    Calls Try.prog 17 #[.slice A n c, .int .i64 p] w fun e w' =>
      e = .returned (.tuple #[.int .i64 (tkN 10 1 xs p), .int .i64 (tkTo 10 1 xs p), .int .i64 (tkE 10 1 xs p)]) ∧ w = w' := by
  go_enter Try.func17, Try.ntmps17
  go_wp2_with fail
  refine (reftake_all A n c B p xs 10 1 w hr hn (by omega) (by omega) (by omega)).mono ?_
  rintro e w' ⟨rfl, rfl⟩
  go_wp2_with fail
  go_ret3
  exact ⟨rfl, rfl⟩
theorem int_any (A : Option Addr) (n c B : Nat) (p : Int) (xs : List UInt8) (w : World) (hr : Rd w B A n xs) (hn : n ≤ 1000000000) :
    Calls Try.prog 19 #[.slice A n c, .int .i64 p] w fun e w' =>
      e = .returned (.tuple #[.int .i64 (tkN 5 15 xs p), .int .i64 (tkTo 5 15 xs p), .int .i64 (tkE 5 15 xs p)]) ∧ w = w' := by
  go_enter Try.func19, Try.ntmps19
  go_wp2_with fail
  refine (reftake_all A n c B p xs 5 15 w hr hn (by omega) (by omega) (by omega)).mono ?_
  rintro e w' ⟨rfl, rfl⟩
  go_wp2_with fail
  go_ret3
  exact ⟨rfl, rfl⟩

/-- 'take', at whatever place: the number without a sign -/
def tkU (most last : Nat) (xs : List UInt8) (p : Int) : Nat := if 0 ≤ p ∧ p ≤ xs.length then (tk most last 0 0 (xs.drop p.toNat)).1 else 0
theorem zag_tkU (most last : Nat) (xs : List UInt8) (p : Int) : zag (tkU most last xs p) = tkN most last xs p := by
  unfold tkU tkN; split
  · rfl
  · rfl
theorem tkU_lt (most last : Nat) (xs : List UInt8) (p : Int) (hm1 : 1 ≤ most) (hm : most ≤ 9 ∨ most = 10 ∧ last ≤ 1) (hlast : last < 128) : tkU most last xs p ≤ 18446744073709551615 := by
  unfold tkU; split
  · have := tk_lt most last hm hlast (xs.drop p.toNat) 0 0 (by omega) (by simp)
    omega
  · omega
theorem take_all (A : Option Addr) (n c g B : Nat) (p : Int) (xs : List UInt8) (most last : Nat) (w : World) (hr : Rd w B A n xs) (hB : B ≤ g) (hnc : n ≤ c) (hn : n ≤ 1000000000)
    (hg : Rdr w g 0 0 most last 0) (hm1 : 1 ≤ most) (hm : most ≤ 9 ∨ most = 10 ∧ last ≤ 1) (hlast : last < 128) :
    Calls Try.prog 52 #[.slice A n c, .int .i64 p, .pointer (some ⟨g, 0, none⟩)] w fun e w' =>
      e = .returned (.tuple #[.int .u64 (tkU most last xs p), .int .i64 (tkTo most last xs p), .int .i64 (tkE most last xs p)]) ∧ Below g w w' := by
  have hl := hr.len
  by_cases h : p < 0 ∨ (n : Int) < p
  · have e : tkU most last xs p = 0 := by unfold tkU; rw [if_neg (by omega)]
    rw [e, tkTo_out (by omega), tkE_out (by omega)]
    refine (take_low A n c p _ w h).mono ?_
    rintro e w' ⟨rfl, rfl⟩
    exact ⟨rfl, Below.refl _ _⟩
  · obtain ⟨q, rfl⟩ := Int.eq_ofNat_of_zero_le (show 0 ≤ p by omega)
    have e : tkU most last xs q = (tk most last 0 0 (xs.drop q)).1 := by unfold tkU; rw [if_pos (by omega), Int.toNat_natCast]
    rw [e, tkTo_in (by omega), tkE_in (by omega)]
    exact take_any A n c q g B xs most last w hr hB (by omega) hnc hn hg hm1 hm hlast

theorem rdr_new (w : World) (m l : Int) : Rdr (w.alloc (.cells #[.int .u64 0, .int .u64 0, .int .i64 m, .int .u8 l, .int .i64 0] 86)) w.heap.size 0 0 m l 0 := heap_alloc_new w _

theorem Take_any (A : Option Addr) (n c B : Nat) (p : Int) (xs : List UInt8) (w : World) (hr : Rd w B A n xs) (hB : B ≤ w.heap.size) (hnc : n ≤ c) (hn : n ≤ 1000000000) :
    Calls Try.prog 16 #[.slice A n c, .int .i64 p] w fun e w' =>
      e = .returned (.tuple #[.int .i64 (tkN 10 1 xs p), .int .i64 (tkTo 10 1 xs p), .int .i64 (tkE 10 1 xs p)]) ∧ Below w.heap.size w w' := by
  have hz := zag_tkU 10 1 xs p
  have hu := tkU_lt 10 1 xs p (by omega) (by omega) (by omega)
  have HZ := Lib.hid hz
  clear hz
  go_enter Try.func16, Try.ntmps16
  go_wp2_with fail
  refine (take_all A n c w.heap.size B p xs 10 1 _ (hr.alloc hB _) hB hnc hn (rdr_new w 10 1) (by omega) (by omega) (by omega)).mono ?_
  rintro e w1 ⟨rfl, hb⟩
  go_wp2_with fail
  refine (zag_any _ (by omega) (by omega) _).mono ?_
  rintro e w2 ⟨rfl, rfl⟩
  rw [HZ.out]
  go_wp2_with fail
  go_ret3
  exact ⟨rfl, ((Below.refl _ _).alloc (Nat.le_refl _) _).trans hb⟩
theorem TakeInt_any (A : Option Addr) (n c B : Nat) (p : Int) (xs : List UInt8) (w : World) (hr : Rd w B A n xs) (hB : B ≤ w.heap.size) (hnc : n ≤ c) (hn : n ≤ 1000000000) :
    Calls Try.prog 18 #[.slice A n c, .int .i64 p] w fun e w' =>
      e = .returned (.tuple #[.int .i64 (tkN 5 15 xs p), .int .i64 (tkTo 5 15 xs p), .int .i64 (tkE 5 15 xs p)]) ∧ Below w.heap.size w w' := by
  have hz := zag_tkU 5 15 xs p
  have hu := tkU_lt 5 15 xs p (by omega) (by omega) (by omega)
  have HZ := Lib.hid hz
  clear hz
  go_enter Try.func18, Try.ntmps18
  go_wp2_with fail
  refine (take_all A n c w.heap.size B p xs 5 15 _ (hr.alloc hB _) hB hnc hn (rdr_new w 5 15) (by omega) (by omega) (by omega)).mono ?_
  rintro e w1 ⟨rfl, hb⟩
  go_wp2_with fail
  refine (zag_any _ (by omega) (by omega) _).mono ?_
  rintro e w2 ⟨rfl, rfl⟩
  rw [HZ.out]
  go_wp2_with fail
  go_ret3
  exact ⟨rfl, ((Below.refl _ _).alloc (Nat.le_refl _) _).trans hb⟩
end Go.Proofs.Ytodgnlhakafhoaa.Vr
