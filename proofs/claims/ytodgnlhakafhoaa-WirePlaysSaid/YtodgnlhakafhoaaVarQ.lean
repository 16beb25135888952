/- The layer varint: plain laws that join what is put and what is taken. -/
import Derived.Test.YtodgnlhakafhoaaVarW
namespace Go.Proofs.Ytodgnlhakafhoaa.Vr
open Num Zg Mem

theorem val_pos : ∀ (n : Nat) (L : List UInt8) (e : UInt8), L[n]? = some e → 0 < e.toNat → 0 < val n L
  | _, [], _, h, _ => by simp at h
  | 0, c :: r, e, h, he => by simp at h; subst h; exact he
  | n + 1, c :: r, e, h, he => by
    have := val_pos n r e (by simpa using h) he
    simp only [val]; omega
theorem ofNat_eq {c : UInt8} {u : Nat} (h : c.toNat = u) : UInt8.ofNat u = c := by
  subst h; simp
theorem vput_val : ∀ (n : Nat) (L : List UInt8) (e : UInt8), (∀ j x, j < n → L[j]? = some x → 128 ≤ x.toNat) → L[n]? = some e → e.toNat < 128 → (0 < n → 0 < e.toNat) → vput (val n L) = L.take (n + 1)
  | _, [], _, _, h, _, _ => by simp at h
  | 0, c :: r, e, _, h, he, _ => by
    simp at h; subst h
    simp only [val, List.take_succ_cons, List.take_zero]
    rw [vput_small he, ofNat_eq rfl]
  | n + 1, c :: r, e, hj, h, he, hp => by
    have h1 := vput_val n r e (fun j x hjn hx => hj (j + 1) x (by omega) (by simpa using hx)) (by simpa using h) he (fun _ => hp (by omega))
    have hv := val_pos n r e (by simpa using h) (hp (by omega))
    have hc := hj 0 c (by omega) rfl
    have hc2 := c.toNat_lt
    simp only [val, List.take_succ_cons]
    rw [vput_big (by omega), ← h1, ofNat_eq (c := c) (by omega)]
    congr 2
    omega

/-- what is taken, put again -/
theorem tk_put {most last : Nat} (hm : 0 < most) (hl : last < 128) {L : List UInt8} (h : (tk most last 0 0 L).2.2 = 0) :
    vput (tk most last 0 0 L).1 = L.take (tk most last 0 0 L).2.1 ∧ 0 < (tk most last 0 0 L).2.1 ∧ (tk most last 0 0 L).2.1 ≤ L.length := by
  rw [tk_eq most last hm hl] at h ⊢
  unfold tkr at h ⊢
  cases hx : L[lead (most - 1) L]? with
  | none => rw [hx] at h; cases h
  | some e =>
    rw [hx] at h
    replace h : (if (lead (most - 1) L = most - 1 ∧ last < e.toNat) ∨ (0 < lead (most - 1) L ∧ e.toNat = 0) then ((0, 0, 11) : Nat × Nat × Nat) else (val (lead (most - 1) L) L, lead (most - 1) L + 1, 0)).2.2 = 0 := h
    show vput (if (lead (most - 1) L = most - 1 ∧ last < e.toNat) ∨ (0 < lead (most - 1) L ∧ e.toNat = 0) then ((0, 0, 11) : Nat × Nat × Nat) else (val (lead (most - 1) L) L, lead (most - 1) L + 1, 0)).1 =
      L.take (if (lead (most - 1) L = most - 1 ∧ last < e.toNat) ∨ (0 < lead (most - 1) L ∧ e.toNat = 0) then ((0, 0, 11) : Nat × Nat × Nat) else (val (lead (most - 1) L) L, lead (most - 1) L + 1, 0)).2.1 ∧
      0 < (if (lead (most - 1) L = most - 1 ∧ last < e.toNat) ∨ (0 < lead (most - 1) L ∧ e.toNat = 0) then ((0, 0, 11) : Nat × Nat × Nat) else (val (lead (most - 1) L) L, lead (most - 1) L + 1, 0)).2.1 ∧
      (if (lead (most - 1) L = most - 1 ∧ last < e.toNat) ∨ (0 < lead (most - 1) L ∧ e.toNat = 0) then ((0, 0, 11) : Nat × Nat × Nat) else (val (lead (most - 1) L) L, lead (most - 1) L + 1, 0)).2.1 ≤ L.length
    by_cases hF : (lead (most - 1) L = most - 1 ∧ last < e.toNat) ∨ (0 < lead (most - 1) L ∧ e.toNat = 0)
    · rw [if_pos hF] at h; cases h
    · rw [if_neg hF]
      have hk := lead_le (most - 1) L
      have hlen := (List.getElem?_eq_some_iff.1 hx).1
      refine ⟨vput_val _ L e (fun j x hj hxx => lead_byte _ L j x hj hxx) hx ?_ (by omega), by simp, by simp; omega⟩
      by_cases h2 : lead (most - 1) L = most - 1
      · omega
      · exact lead_stop (most - 1) L e (by omega) hx
theorem tk_bad (most last : Nat) : ∀ (L : List UInt8) (i u : Nat), (tk most last i u L).2.2 ≠ 0 → (tk most last i u L).1 = 0 ∧ (tk most last i u L).2.1 = 0
  | [], _, _, _ => ⟨rfl, rfl⟩
  | c :: r, i, u, h => by
    rw [tk_cons] at h ⊢
    by_cases h1 : i + 1 = most ∧ last < c.toNat
    · rw [if_pos h1]; exact ⟨rfl, rfl⟩
    · rw [if_neg h1] at h ⊢
      by_cases h2 : c.toNat = 0 ∧ 0 < i
      · rw [if_pos h2]; exact ⟨rfl, rfl⟩
      · rw [if_neg h2] at h ⊢
        by_cases h3 : c.toNat < 128
        · rw [if_pos h3] at h; exact absurd rfl h
        · rw [if_neg h3] at h ⊢
          exact tk_bad most last r _ _ h

theorem tk_vput (most last : Nat) (hl : last < 128) : ∀ (k u i acc : Nat) (tail : List UInt8), parts u ≤ k → i < most → u < (last + 1) * 128 ^ (most - 1 - i) → (0 < u ∨ i = 0) →
    tk most last i acc (vput u ++ tail) = (acc + u * 128 ^ i, i + parts u, 0)
  | 0, u, _, _, _, h, _, _, _ => by have := parts_pos u; omega
  | k + 1, u, i, acc, tail, h, hi, hu, h0 => by
    by_cases hs : u < 128
    · have e : (UInt8.ofNat u).toNat = u := by rw [UInt8.toNat_ofNat']; omega
      rw [vput_small hs, List.singleton_append, tk_cons, e, if_neg, if_neg (by omega), if_pos hs, parts_small hs, Nat.mod_eq_of_lt hs]
      rintro ⟨h1, h2⟩
      rw [show most - 1 - i = 0 by omega] at hu
      omega
    · have e : (UInt8.ofNat (u % 128 + 128)).toNat = u % 128 + 128 := by rw [UInt8.toNat_ofNat']; omega
      have hne : i + 1 ≠ most := by
        intro h1
        rw [show most - 1 - i = 0 by omega] at hu
        omega
      have hp := parts_step (u := u) (by omega)
      rw [vput_big (by omega), List.cons_append, tk_cons, e, if_neg (by omega), if_neg (by omega), if_neg (by omega),
        tk_vput most last hl k (u / 128) (i + 1) _ tail (by omega) (by omega) ?_ (.inl (by omega)), hp]
      · simp only [Prod.mk.injEq]
        refine ⟨?_, by omega, trivial⟩
        rw [Nat.pow_succ, show (u % 128 + 128) % 128 = u % 128 by omega, Nat.add_assoc, Nat.mul_comm (128 ^ i) 128, ← Nat.mul_assoc, ← Nat.add_mul]
        congr 2
        omega
      · rw [show most - 1 - i = (most - 1 - (i + 1)) + 1 by omega, Nat.pow_succ, ← Nat.mul_assoc] at hu
        omega
theorem tk_vput_bad (most last : Nat) (hl : last < 128) : ∀ (k u i acc : Nat) (tail : List UInt8), parts u ≤ k → i < most → (last + 1) * 128 ^ (most - 1 - i) ≤ u → tk most last i acc (vput u ++ tail) = (0, 0, 11)
  | 0, u, _, _, _, h, _, _ => by have := parts_pos u; omega
  | k + 1, u, i, acc, tail, h, hi, hu => by
    by_cases hs : u < 128
    · have e : (UInt8.ofNat u).toNat = u := by rw [UInt8.toNat_ofNat']; omega
      have h1 : i + 1 = most := by
        rcases Nat.lt_or_ge (i + 1) most with h1 | h1
        · rw [show most - 1 - i = (most - 1 - (i + 1)) + 1 by omega, Nat.pow_succ, ← Nat.mul_assoc] at hu
          have : 0 < (last + 1) * 128 ^ (most - 1 - (i + 1)) := Nat.mul_pos (by omega) (Nat.pow_pos (by omega))
          omega
        · omega
      rw [show most - 1 - i = 0 by omega] at hu
      rw [vput_small hs, List.singleton_append, tk_cons, e, if_pos ⟨h1, by omega⟩]
    · have e : (UInt8.ofNat (u % 128 + 128)).toNat = u % 128 + 128 := by rw [UInt8.toNat_ofNat']; omega
      have hp := parts_step (u := u) (by omega)
      rw [vput_big (by omega), List.cons_append, tk_cons, e]
      by_cases h1 : i + 1 = most
      · rw [if_pos ⟨h1, by omega⟩]
      · rw [if_neg (by omega), if_neg (by omega), if_neg (by omega)]
        refine tk_vput_bad most last hl k (u / 128) (i + 1) _ tail (by omega) (by omega) ?_
        rw [show most - 1 - i = (most - 1 - (i + 1)) + 1 by omega, Nat.pow_succ, ← Nat.mul_assoc] at hu
        omega
end Go.Proofs.Ytodgnlhakafhoaa.Vr
