/- The layer wire: plain laws: more bytes behind change no answer but 'the bytes end'. -/
import Derived.Test.YtodgnlhakafhoaaWirJ
namespace Go.Proofs.Ytodgnlhakafhoaa.Wr
open Num Mem

theorem tk_more (most last : Nat) (t : List UInt8) : ∀ (L : List UInt8) (i u : Nat), (Vr.tk most last i u L).2.2 ≠ 10 → Vr.tk most last i u (L ++ t) = Vr.tk most last i u L
  | [], _, _, h => absurd rfl h
  | c :: r, i, u, h => by
    rw [List.cons_append, Vr.tk_cons, Vr.tk_cons]
    rw [Vr.tk_cons] at h
    by_cases h1 : i + 1 = most ∧ last < c.toNat
    · rw [if_pos h1, if_pos h1]
    · rw [if_neg h1] at h
      rw [if_neg h1, if_neg h1]
      by_cases h2 : c.toNat = 0 ∧ 0 < i
      · rw [if_pos h2, if_pos h2]
      · rw [if_neg h2] at h
        rw [if_neg h2, if_neg h2]
        by_cases h3 : c.toNat < 128
        · rw [if_pos h3, if_pos h3]
        · rw [if_neg h3] at h
          rw [if_neg h3, if_neg h3]
          exact tk_more most last t r _ _ h
section
variable {most last : Nat} {xs ts : List UInt8} {p : Nat} (hp : p ≤ xs.length)
include hp
theorem tk_mores (h : Vr.tkE most last xs p ≠ 10) : Vr.tkE most last (xs ++ ts) p = Vr.tkE most last xs p ∧ Vr.tkN most last (xs ++ ts) p = Vr.tkN most last xs p ∧ Vr.tkTo most last (xs ++ ts) p = Vr.tkTo most last xs p := by
  have hp2 : p ≤ (xs ++ ts).length := by simp; omega
  rw [Vr.tkE_in hp] at h ⊢
  rw [Vr.tkN_in hp, Vr.tkTo_in hp, Vr.tkE_in hp2, Vr.tkN_in hp2, Vr.tkTo_in hp2, List.drop_append_of_le_length hp, tk_more most last ts _ _ _ (by intro e; apply h; exact_mod_cast e)]
  exact ⟨rfl, rfl, rfl⟩
end

theorem nxE_more {n n' p : Nat} {ts : List UInt8} (hl' : n' = n + ts.length) (hp : p ≤ n) {k : Int} (h : nxE n p 0 k ≠ 10) : nxE n p 0 k = 0 ∧ nxE n' p 0 k = 0 ∧ max k 0 ≤ (n : Int) - p := by
  have e : ∀ N : Nat, p ≤ N → nxE N p 0 k = if (N : Int) - p < max k 0 then 10 else 0 := by
    intro N hN
    unfold nxE
    rw [stE_in (by omega), if_neg (by simp)]
  rw [e n hp] at h ⊢
  rw [e n' (by omega)]
  by_cases h1 : (n : Int) - p < max k 0
  · rw [if_pos h1] at h; exact absurd rfl h
  · rw [if_neg h1, if_neg (by omega)]
    exact ⟨rfl, rfl, by omega⟩
section
variable {n n' p : Nat} {xs ts : List UInt8} (hl : xs.length = n) (hl' : n' = n + ts.length) (hp : p ≤ n)
include hl hl' hp
theorem fx_more {k : Int} (h : nxE n p 0 k ≠ 10) : nxE n' p 0 k = nxE n p 0 k ∧ fxT n' p 0 k = fxT n p 0 k ∧ fxY n' (xs ++ ts) p 0 k = fxY n xs p 0 k := by
  obtain ⟨h1, h2, h3⟩ := nxE_more hl' hp h
  unfold fxT fxY
  rw [h1, h2]
  simp only [if_true]
  rw [Int.toNat_natCast, List.drop_append_of_le_length (by omega), List.take_append_of_le_length (by rw [List.length_drop]; omega)]
  exact ⟨by trivial, by trivial, by rfl⟩
theorem bl_more (h : blE n xs p 0 ≠ 10) : blE n' (xs ++ ts) p 0 = blE n xs p 0 ∧ blT n' (xs ++ ts) p 0 = blT n xs p 0 ∧ blN n' (xs ++ ts) p 0 = blN n xs p 0 := by
  have h0 : nxE n p 0 1 ≠ 10 := by
    intro e
    apply h
    unfold blE
    rw [if_pos (by rw [e]; omega), e]
  obtain ⟨h1, h2, h3⟩ := nxE_more hl' hp h0
  have hb : byteAt (xs ++ ts) p = byteAt xs p := by
    unfold byteAt
    rw [Int.toNat_natCast, List.getD_eq_getElem?_getD, List.getD_eq_getElem?_getD, List.getElem?_append_left (by omega)]
  have hE : blE n' (xs ++ ts) p 0 = blE n xs p 0 := by unfold blE; rw [h1, h2, hb]
  unfold blT blN
  rw [hE, hb]
  exact ⟨rfl, rfl, rfl⟩
theorem ln_more {most last : Nat} (h : lnE most last n xs p 0 ≠ 10) : lnE most last n' (xs ++ ts) p 0 = lnE most last n xs p 0 ∧ lnT most last n' (xs ++ ts) p 0 = lnT most last n xs p 0 ∧ lnN most last n' (xs ++ ts) p 0 = lnN most last n xs p 0 ∧
    Vr.tkN most last (xs ++ ts) p = Vr.tkN most last xs p ∧ Vr.tkTo most last (xs ++ ts) p = Vr.tkTo most last xs p := by
  have e1 : lnE most last n xs p 0 = Vr.tkE most last xs p := by unfold lnE; rw [stE_in (by omega), if_neg (by simp)]
  have e2 : lnE most last n' (xs ++ ts) p 0 = Vr.tkE most last (xs ++ ts) p := by unfold lnE; rw [stE_in (by omega), if_neg (by simp)]
  rw [e1] at h
  obtain ⟨h1, h2, h3⟩ := tk_mores (ts := ts) (show p ≤ xs.length by omega) (by intro e; apply h; rw [e] <;> rfl)
  unfold lnT lnN
  rw [e1, e2, h1, h2, h3]
  exact ⟨rfl, rfl, rfl, rfl, rfl⟩
theorem by_more (h : byE n xs p 0 ≠ 10) : byE n' (xs ++ ts) p 0 = byE n xs p 0 ∧ byT n' (xs ++ ts) p 0 = byT n xs p 0 ∧ byY n' (xs ++ ts) p 0 = byY n xs p 0 := by
  have h0 : lnE 10 1 n xs p 0 ≠ 10 := by
    intro e
    apply h
    unfold byE
    rw [if_pos (by rw [e]; omega), e]
  obtain ⟨h1, h2, h3, h4, h5⟩ := ln_more hl hl' hp h0
  have hE : byE n' (xs ++ ts) p 0 = byE n xs p 0 := by
    rcases byE_cases (n := n) (xs := xs) (a := (p : Int)) (e := 0) with ⟨g1, g2⟩ | ⟨g1, g2, g3⟩ | ⟨g1, ⟨g2, g2'⟩, g3⟩ | ⟨g1, g2, g3, g4, g5⟩ | g
    · rw [g2]; unfold byE; rw [h1, if_pos g1]
    · rw [g3]; unfold byE; rw [h1, h4, if_neg (by simp [g1]), if_pos g2]
    · rw [g3]; unfold byE; rw [h1, h4, if_neg (by simp [g1]), if_neg g2, if_pos g2']
    · exact absurd g5 h
    · rw [g]
      obtain ⟨g1, g2, g3, g4⟩ := byE_zero g
      unfold byE
      rw [h1, h4, h5, if_neg (by simp [g1]), if_neg (by omega), if_neg (by omega), if_neg (by omega)]
  unfold byT byY
  rw [hE, h4, h5]
  refine ⟨rfl, rfl, ?_⟩
  by_cases g : byE n xs p 0 = 0
  · rw [if_pos g, if_pos g]
    obtain ⟨g1, g2, g3, g4⟩ := byE_zero g
    obtain ⟨_, hs, hk⟩ := lnE_zero g1
    obtain ⟨q, hq, hqn, _⟩ := tk_at (n := n) (by omega) (by omega) hl (by omega) (by omega) hk
    unfold byL
    rw [h4, h5, hq, Int.toNat_natCast, List.drop_append_of_le_length (by omega), List.take_append_of_le_length (by rw [List.length_drop]; omega)]
  · rw [if_neg g, if_neg g]
theorem tx_more (h : txE n xs p 0 ≠ 10) : txE n' (xs ++ ts) p 0 = txE n xs p 0 ∧ txT n' (xs ++ ts) p 0 = txT n xs p 0 ∧ txY n' (xs ++ ts) p 0 = txY n xs p 0 := by
  have h0 : byE n xs p 0 ≠ 10 := by
    intro e
    apply h
    unfold txE
    rw [if_pos (by rw [e]; omega), e]
  obtain ⟨h1, h2, h3⟩ := by_more hl hl' hp h0
  by_cases g : byE n xs p 0 = 0
  · have e1 : byL (xs ++ ts) p = byL xs p := by
      unfold byY at h3
      rw [h1, if_pos g, if_pos g] at h3; exact h3
    have hE : txE n' (xs ++ ts) p 0 = txE n xs p 0 := by unfold txE; rw [h1, e1]
    have e2 : Vr.tkTo 10 1 (xs ++ ts) p + Vr.tkN 10 1 (xs ++ ts) p = Vr.tkTo 10 1 xs p + Vr.tkN 10 1 xs p := by
      unfold byT at h2
      rw [h1, if_pos g, if_pos g] at h2; exact h2
    unfold txT txY
    rw [hE, e1, e2]
    exact ⟨rfl, rfl, rfl⟩
  · have e1 : txE n xs p 0 = byE n xs p 0 := by unfold txE; rw [if_pos g]
    have e2 : txE n' (xs ++ ts) p 0 = byE n xs p 0 := by unfold txE; rw [h1, if_pos g]
    unfold txT txY
    rw [e1, e2, if_neg g, if_neg g, if_neg g, if_neg g]
    exact ⟨rfl, rfl, rfl⟩
end
end Go.Proofs.Ytodgnlhakafhoaa.Wr
