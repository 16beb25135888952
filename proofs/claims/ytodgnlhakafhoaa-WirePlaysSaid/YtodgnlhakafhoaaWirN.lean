/- The layer wire: plain laws: what is put is read again. -/
import Derived.Test.YtodgnlhakafhoaaWirJ
import Derived.Test.YtodgnlhakafhoaaWirP
import Derived.Test.YtodgnlhakafhoaaVarQ
namespace Go.Proofs.Ytodgnlhakafhoaa.Wr
open Go.ChangeShapes Go.WideShapes Go.ChangeAt Go.RowKit
open Num Mem

theorem leV_append : ∀ (l r : List UInt8), leV (l ++ r) = leV l + 256 ^ l.length * leV r
  | [], r => by simp [leV]
  | x :: l, r => by
    rw [List.cons_append]
    simp only [leV, List.length_cons]
    rw [leV_append l r, Nat.pow_succ, Nat.mul_add, Nat.mul_comm (256 ^ l.length) 256, Nat.mul_assoc]
    omega
theorem leV_lbs (u : Nat) : ∀ k : Nat, leV (lbs u k) = u % 256 ^ k
  | 0 => by simp [lbs, leV, Nat.mod_one]
  | k + 1 => by
    rw [lbs_succ, leV_append, leV_lbs u k, lbs_len]
    simp only [leV, Nat.mul_zero, Nat.add_zero]
    rw [UInt8.toNat_ofNat', Nat.mod_mod_of_dvd _ (by decide), Nat.pow_succ]
    exact Nat.mod_mul.symm

section
variable {n p : Nat} {xs : List UInt8} (hl : xs.length = n) (hp : p ≤ n)

theorem drop_more {ys r : List UInt8} (h : xs.drop p = ys ++ r) : xs.drop (p + ys.length) = r := by
  rw [← List.drop_drop, h, List.drop_left]
include hl in
theorem drop_len {ys r : List UInt8} (h : xs.drop p = ys ++ r) (hy : 0 < ys.length + r.length) : p + ys.length + r.length = n := by
  have h2 := congrArg List.length h
  rw [List.length_drop, List.length_append] at h2
  omega

include hl in
theorem bl_at {v : Int} {r : List UInt8} (h : xs.drop p = [tb v] ++ r) : blE n xs p 0 = 0 ∧ blN n xs p 0 = (if v = 0 then 0 else 1) ∧ blT n xs p 0 = ((p + 1 : Nat) : Int) := by
  have h1 := drop_len hl h (by simp; omega)
  simp only [List.length_singleton] at h1
  have e0 : nxE n p 0 1 = 0 := by
    unfold nxE
    rw [stE_in (by omega), if_neg (by simp), if_neg (by omega)]
  have hx : xs[p]? = some (tb v) := by
    have := congrArg (fun l : List UInt8 => l[0]?) h
    simpa using this
  have hb : byteAt xs p = (tb v).toNat := by
    unfold byteAt
    rw [Int.toNat_natCast, List.getD_eq_getElem?_getD, hx]; rfl
  have ht : ((tb v).toNat : Int) = (if v = 0 then 0 else 1) := by unfold tb; split <;> rfl
  have hE : blE n xs p 0 = 0 := by
    unfold blE
    rw [e0, if_neg (by simp), hb, if_neg]
    by_cases hv : v = 0
    · rw [if_pos hv] at ht; omega
    · rw [if_neg hv] at ht; omega
  unfold blN blT
  rw [hE, if_pos rfl, if_pos rfl, hb]
  exact ⟨rfl, ht, by simp⟩

include hl in
theorem ln_at {most last u : Nat} {r : List UInt8} (hlast : last < 128) (hm : 0 < most) (hu : u < (last + 1) * 128 ^ (most - 1)) (h : xs.drop p = Vr.vput u ++ r) :
    lnE most last n xs p 0 = 0 ∧ lnN most last n xs p 0 = zag (u : Int) ∧ lnT most last n xs p 0 = ((p + parts u : Nat) : Int) ∧ Vr.tkE most last xs p = 0 ∧ Vr.tkN most last xs p = zag (u : Int) ∧ Vr.tkTo most last xs p = ((p + parts u : Nat) : Int) := by
  have hpp := parts_pos u
  have h1 := drop_len hl h (by rw [Vr.vput_len]; omega)
  rw [Vr.vput_len] at h1
  have hp : p ≤ xs.length := by omega
  have ht := Vr.tk_vput most last hlast _ u 0 0 r (Nat.le_refl _) hm (by simpa using hu) (.inr rfl)
  have hE : Vr.tkE most last xs p = 0 := by rw [Vr.tkE_in hp, h, ht]; rfl
  have hN : Vr.tkN most last xs p = zag (u : Int) := by rw [Vr.tkN_in hp, h, ht]; simp
  have hT : Vr.tkTo most last xs p = ((p + parts u : Nat) : Int) := by rw [Vr.tkTo_in hp, h, ht]; simp
  have e1 : lnE most last n xs p 0 = 0 := by unfold lnE; rw [stE_in (by omega), if_neg (by simp), hE]
  unfold lnN lnT
  rw [e1, if_pos rfl, if_pos rfl, hN, hT]
  exact ⟨rfl, rfl, rfl, hE, rfl, rfl⟩

include hl in
theorem bt_at {u m : Nat} {k : Int} {r : List UInt8} (hm : (m : Int) = max (min k 8) 0) (h0 : 0 < m) (h : xs.drop p = lbs u m ++ r) :
    nxE n p 0 (min k 8) = 0 ∧ fxT n p 0 (min k 8) = ((p + m : Nat) : Int) ∧ btU n xs p 0 k = u % 256 ^ m := by
  have h1 := drop_len hl h (by rw [lbs_len]; omega)
  rw [lbs_len] at h1
  have e0 : nxE n p 0 (min k 8) = 0 := by
    unfold nxE
    rw [stE_in (by omega), if_neg (by simp), if_neg (by omega)]
  unfold fxT btU
  rw [e0, if_pos rfl, if_pos rfl, ← hm, Int.toNat_natCast, Int.toNat_natCast, h, List.take_left' (lbs_len u m), leV_lbs]
  exact ⟨rfl, by simp, rfl⟩

include hl in
theorem by_at {ys r : List UInt8} (hy : ys.length ≤ 20000) (h : xs.drop p = pby ys ++ r) :
    byE n xs p 0 = 0 ∧ byL xs p = ys ∧ byT n xs p 0 = ((p + (pby ys).length : Nat) : Int) ∧ Vr.tkTo 10 1 xs p + Vr.tkN 10 1 xs p = ((p + (pby ys).length : Nat) : Int) := by
  have hz : zig (ys.length : Int) = 2 * (ys.length : Int) := zig_pos (by omega)
  have hz2 : ((zig (ys.length : Int)).toNat : Int) = zig (ys.length : Int) := by omega
  have h' := h
  unfold pby at h'
  rw [List.append_assoc] at h'
  obtain ⟨e1, e2, e3, e4, e5, e6⟩ := ln_at (most := 10) (last := 1) hl (by omega) (by omega) (by show _ < 2 * 128 ^ 9; omega) h'
  rw [hz2, zag_zig] at e5
  have hd := drop_more h'
  rw [Vr.vput_len] at hd
  have h1 := drop_len hl h' (by rw [Vr.vput_len]; have := parts_pos (zig (ys.length : Int)).toNat; omega)
  rw [Vr.vput_len, List.length_append] at h1
  have hpl : (pby ys).length = parts (zig (ys.length : Int)).toNat + ys.length := by unfold pby; rw [List.length_append, Vr.vput_len]
  have hE : byE n xs p 0 = 0 := by
    unfold byE
    rw [e1, e5, e6, if_neg (by simp), if_neg (by omega), if_neg (by omega), if_neg (by omega)]
  have hL : byL xs p = ys := by
    unfold byL
    rw [e5, e6, Int.toNat_natCast, Int.toNat_natCast, hd, List.take_left]
  have hT : Vr.tkTo 10 1 xs p + Vr.tkN 10 1 xs p = ((p + (pby ys).length : Nat) : Int) := by rw [e5, e6, hpl]; omega
  unfold byT
  rw [hE, if_pos rfl]
  exact ⟨rfl, hL, hT, hT⟩

include hl in
theorem tx_at {ys r : List UInt8} (hy : ys.length ≤ 20000) (h : xs.drop p = pby ys ++ r) :
    if (Ut.ucount ys).isSome = true then txE n xs p 0 = 0 ∧ txY n xs p 0 = ys ∧ txT n xs p 0 = ((p + (pby ys).length : Nat) : Int) else txE n xs p 0 = 11 ∧ txY n xs p 0 = [] ∧ txT n xs p 0 = p := by
  obtain ⟨e1, e2, e3, e4⟩ := by_at hl hy h
  by_cases hu : (Ut.ucount ys).isSome = true
  · rw [if_pos hu]
    have hE : txE n xs p 0 = 0 := by unfold txE; rw [e1, if_neg (by simp), e2, if_pos hu]
    unfold txY txT
    rw [hE, if_pos rfl, if_pos rfl]
    exact ⟨rfl, e2, e4⟩
  · rw [if_neg hu]
    have hE : txE n xs p 0 = 11 := by unfold txE; rw [e1, if_neg (by simp), e2, if_neg hu]
    unfold txY txT
    rw [hE, if_neg (by simp), if_neg (by simp)]
    exact ⟨rfl, rfl, rfl⟩
end

/-- all that stands in what is put one behind the other -/
theorem back_plain {a0 a1 : Int} (h0 : -9223372036854775808 ≤ a0) (h0' : a0 ≤ 9223372036854775807) (h1 : -2147483648 ≤ a1) (h1' : a1 ≤ 2147483647) {u : Nat} (hu : u ≤ 18446744073709551615) {xs ys ts L : List UInt8} (hx : xs.length ≤ 2000) (hy : ys.length ≤ 2000) {N : Nat}
    (hL : L = [tb a0] ++ Vr.vput (zig a1).toNat ++ Vr.vput (zig a0).toNat ++ lbs u 8 ++ lbs u 4 ++ pby xs ++ pby ys ++ ts) (hN : L.length = N) :
    ∃ p1 p2 p3 p4 p5 p6 p7 : Nat, (blE N L 0 0 = 0 ∧ blN N L 0 0 = (if a0 = 0 then 0 else 1) ∧ blT N L 0 0 = p1) ∧
      (lnE 5 15 N L p1 0 = 0 ∧ lnN 5 15 N L p1 0 = a1 ∧ lnT 5 15 N L p1 0 = p2) ∧ (lnE 10 1 N L p2 0 = 0 ∧ lnN 10 1 N L p2 0 = a0 ∧ lnT 10 1 N L p2 0 = p3) ∧
      (nxE N p3 0 (min 8 8) = 0 ∧ btU N L p3 0 8 = u ∧ fxT N p3 0 (min 8 8) = p4) ∧ (nxE N p4 0 (min 4 8) = 0 ∧ btU N L p4 0 4 = u % 4294967296 ∧ fxT N p4 0 (min 4 8) = p5) ∧
      (byE N L p5 0 = 0 ∧ byY N L p5 0 = xs ∧ byT N L p5 0 = p6) ∧
      (if (Ut.ucount ys).isSome = true then txE N L p6 0 = 0 ∧ txY N L p6 0 = ys ∧ txT N L p6 0 = p7 else txE N L p6 0 = 11 ∧ txY N L p6 0 = [] ∧ txT N L p6 0 = p6) ∧
      p7 + ts.length = N ∧ enE N p7 0 = (if ts.length = 0 then 0 else 12) := by
  have g0 := zig_nonneg a0
  have g1 := zig_nonneg a1
  have g2 := zig_le a0 h0 h0'
  have g3 := zig_le32 a1 h1 h1'
  have z0 : zag ((zig a0).toNat : Int) = a0 := by rw [show ((zig a0).toNat : Int) = zig a0 by omega, zag_zig]
  have z1 : zag ((zig a1).toNat : Int) = a1 := by rw [show ((zig a1).toNat : Int) = zig a1 by omega, zag_zig]
  have d0 : L.drop 0 = [tb a0] ++ (Vr.vput (zig a1).toNat ++ (Vr.vput (zig a0).toNat ++ (lbs u 8 ++ (lbs u 4 ++ (pby xs ++ (pby ys ++ ts)))))) := by rw [hL, List.drop_zero]; simp only [List.append_assoc]
  have d1 := drop_more d0
  have d2 := drop_more d1
  have d3 := drop_more d2
  have d4 := drop_more d3
  have d5 := drop_more d4
  have d6 := drop_more d5
  have d7 := drop_more d6
  have c1 := bl_at hN d0
  have c2 := ln_at (most := 5) (last := 15) hN (by omega) (by omega) (by show _ < 16 * 128 ^ 4; omega) d1
  have c3 := ln_at (most := 10) (last := 1) hN (by omega) (by omega) (by show _ < 2 * 128 ^ 9; omega) d2
  have c4 := bt_at (m := 8) (k := 8) hN (by omega) (by omega) d3
  have c5 := bt_at (m := 4) (k := 4) hN (by omega) (by omega) d4
  have c6 := by_at hN (by omega) d5
  have c7 := tx_at hN (by omega) d6
  rw [Nat.mod_eq_of_lt (by show u < 18446744073709551616; omega)] at c4
  rw [z1] at c2
  rw [z0] at c3
  have hlen : 0 + [tb a0].length + (Vr.vput (zig a1).toNat).length + (Vr.vput (zig a0).toNat).length + (lbs u 8).length + (lbs u 4).length + (pby xs).length + (pby ys).length + ts.length = N := by
    have := congrArg List.length hL
    simp only [List.length_append, hN] at this
    simp only [List.length_singleton] at this ⊢
    omega
  refine ⟨_, _, _, _, _, _, _, c1, ⟨c2.1, c2.2.1, ?_⟩, ⟨c3.1, c3.2.1, ?_⟩, ⟨c4.1, c4.2.2, ?_⟩, ⟨c5.1, c5.2.2, ?_⟩, ⟨c6.1, ?_, c6.2.2.1⟩, c7, hlen, ?_⟩
  · rw [Vr.vput_len]; exact c2.2.2.1
  · rw [Vr.vput_len (zig a0).toNat]; exact c3.2.2.1
  · rw [lbs_len u 8]; exact c4.2.1
  · rw [lbs_len u 4]; exact c5.2.1
  · unfold byY; rw [c6.1, if_pos rfl]; exact c6.2.1
  · unfold enE
    rw [stE_in (by omega), if_neg (by simp)]
    by_cases h : ts.length = 0
    · rw [if_pos h, if_neg (by omega)]
    · rw [if_neg h, if_pos (by omega)]

/-- a reader is written into its place -/
theorem store_rd {w : World} {g : Nat} {A0 : Option Addr} {n0 c0 : Nat} {a0 e0 : Int} (h : Bxr w g A0 n0 c0 a0 e0) (A : Option Addr) (n c : Nat) (a e : Int) :
    Bxr (((w.setCell ⟨g, 0, none⟩ (.slice A n c)).setCell ⟨g, 1, none⟩ (.int .i64 a)).setCell ⟨g, 2, none⟩ (.int .i64 e)) g A n c a e ∧
    Below g w (((w.setCell ⟨g, 0, none⟩ (.slice A n c)).setCell ⟨g, 1, none⟩ (.int .i64 a)).setCell ⟨g, 2, none⟩ (.int .i64 e)) ∧
    (((w.setCell ⟨g, 0, none⟩ (.slice A n c)).setCell ⟨g, 1, none⟩ (.int .i64 a)).setCell ⟨g, 2, none⟩ (.int .i64 e)).heap.size = w.heap.size := by
  obtain ⟨⟨r0, r1, r2⟩, k0, k1, k2⟩ := h
  exact ⟨⟨⟨by go_simp, by go_simp, by go_simp⟩, by go_simp, by go_simp, by go_simp⟩, (((Below.refl g w).setAt 0 _).setAt 1 _).setAt 2 _, by simp⟩
end Go.Proofs.Ytodgnlhakafhoaa.Wr
