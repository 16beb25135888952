/- The layer varint: plain laws on what is taken; no program here. -/
import Derived.Test.YtodgnlhakafhoaaVarT
namespace Go.Proofs.Ytodgnlhakafhoaa.Vr
open Num Zg Mem

/-- how many bytes of the first k are no last ones -/
def lead : Nat → List UInt8 → Nat
  | 0, _ => 0
  | _ + 1, [] => 0
  | k + 1, c :: r => if 128 ≤ c.toNat then lead k r + 1 else 0
/-- the number of n bytes and the one behind them -/
def val : Nat → List UInt8 → Nat
  | _, [] => 0
  | 0, c :: _ => c.toNat
  | n + 1, c :: r => val n r * 128 + c.toNat % 128

theorem lead_le : ∀ (k : Nat) (L : List UInt8), lead k L ≤ k ∧ lead k L ≤ L.length
  | 0, _ => by simp [lead]
  | _ + 1, [] => by simp [lead]
  | k + 1, c :: r => by
    have := lead_le k r
    unfold lead
    split <;> simp <;> omega
theorem lead_byte : ∀ (k : Nat) (L : List UInt8) (j : Nat) (x : UInt8), j < lead k L → L[j]? = some x → 128 ≤ x.toNat
  | 0, _, _, _, h, _ => by simp [lead] at h
  | _ + 1, [], _, _, h, _ => by simp [lead] at h
  | k + 1, c :: r, j, x, h, hx => by
    unfold lead at h
    by_cases hc : 128 ≤ c.toNat
    · rw [if_pos hc] at h
      cases j with
      | zero => simp at hx; subst hx; exact hc
      | succ j => exact lead_byte k r j x (by omega) (by simpa using hx)
    · rw [if_neg hc] at h; omega
theorem lead_stop : ∀ (k : Nat) (L : List UInt8) (x : UInt8), lead k L < k → L[lead k L]? = some x → x.toNat < 128
  | 0, _, _, h, _ => by omega
  | _ + 1, [], _, _, hx => by simp at hx
  | k + 1, c :: r, x, h, hx => by
    unfold lead at h hx
    by_cases hc : 128 ≤ c.toNat
    · rw [if_pos hc] at h hx
      exact lead_stop k r x (by omega) (by simpa using hx)
    · rw [if_neg hc] at hx
      simp at hx; subst hx; omega

/-- what the document's way answers -/
def tkr (most last : Nat) (L : List UInt8) : Nat × Nat × Nat :=
  match L[lead (most - 1) L]? with
  | none => (0, 0, 10)
  | some e => if (lead (most - 1) L = most - 1 ∧ last < e.toNat) ∨ (0 < lead (most - 1) L ∧ e.toNat = 0) then (0, 0, 11) else (val (lead (most - 1) L) L, lead (most - 1) L + 1, 0)

theorem tk_from (most last : Nat) (hl : last < 128) : ∀ (L : List UInt8) (i u : Nat), i < most → tk most last i u L =
    match L[lead (most - 1 - i) L]? with
    | none => (0, 0, 10)
    | some e => if (i + lead (most - 1 - i) L = most - 1 ∧ last < e.toNat) ∨ (0 < i + lead (most - 1 - i) L ∧ e.toNat = 0) then (0, 0, 11)
      else (u + val (lead (most - 1 - i) L) L * 128 ^ i, i + lead (most - 1 - i) L + 1, 0)
  | [], i, u, hi => by cases h : most - 1 - i <;> simp [lead, tk]
  | c :: r, i, u, hi => by
    rw [tk_cons]
    by_cases h0 : most - 1 - i = 0
    · have hl0 : lead 0 (c :: r) = 0 := rfl
      rw [h0, hl0, Nat.add_zero]
      show _ = if _ then _ else _
      have hi1 : i + 1 = most := by omega
      by_cases h1 : last < c.toNat
      · rw [if_pos ⟨hi1, h1⟩, if_pos (.inl ⟨by omega, h1⟩)]
      · rw [if_neg (by omega)]
        by_cases h2 : c.toNat = 0 ∧ 0 < i
        · rw [if_pos h2, if_pos (.inr ⟨h2.2, h2.1⟩)]
        · rw [if_neg h2, if_pos (by omega), if_neg (by omega)]
          show _ = (u + c.toNat * 128 ^ i, i + 1, 0)
          rw [Nat.mod_eq_of_lt (by omega)]
    · obtain ⟨k, hk⟩ : ∃ k, most - 1 - i = k + 1 := ⟨most - 1 - i - 1, by omega⟩
      have hk2 : most - 1 - (i + 1) = k := by omega
      rw [hk, if_neg (by omega)]
      by_cases hc : 128 ≤ c.toNat
      · have hlead : lead (k + 1) (c :: r) = lead k r + 1 := by simp [lead, hc]
        rw [if_neg (by omega), if_neg (by omega), tk_from most last hl r (i + 1) _ (by omega), hk2, hlead, List.getElem?_cons_succ]
        cases hr : r[lead k r]? with
        | none => rfl
        | some e =>
          show (if _ then _ else _) = if _ then _ else _
          by_cases hb : (i + 1 + lead k r = most - 1 ∧ last < e.toNat) ∨ (0 < i + 1 + lead k r ∧ e.toNat = 0)
          · rw [if_pos hb, if_pos (by omega)]
          · rw [if_neg hb, if_neg (by omega)]
            simp only [val, Prod.mk.injEq]
            refine ⟨?_, by omega, trivial⟩
            rw [Nat.add_mul, Nat.mul_assoc, ← Nat.pow_succ', Nat.pow_succ, Nat.add_assoc, Nat.add_comm (c.toNat % 128 * 128 ^ i)]
      · have hlead : lead (k + 1) (c :: r) = 0 := by simp [lead, hc]
        rw [hlead, Nat.add_zero]
        show _ = if _ then _ else _
        by_cases h2 : c.toNat = 0 ∧ 0 < i
        · rw [if_pos h2, if_pos (.inr ⟨h2.2, h2.1⟩)]
        · rw [if_neg h2, if_pos (by omega), if_neg (by omega)]
          show _ = (u + c.toNat * 128 ^ i, i + 1, 0)
          rw [Nat.mod_eq_of_lt (by omega)]
theorem tk_eq (most last : Nat) (hm : 0 < most) (hl : last < 128) (L : List UInt8) : tk most last 0 0 L = tkr most last L := by
  have h := tk_from most last hl L 0 0 hm
  unfold tkr
  simpa using h

theorem tk_lt (most last : Nat) (hmm : most ≤ 9 ∨ most = 10 ∧ last ≤ 1) (hl : last < 128) : ∀ (L : List UInt8) (i u : Nat), i < most → u < 128 ^ i → (tk most last i u L).1 < 18446744073709551616
  | [], i, u, hi, hu => by simp [tk]
  | c :: r, i, u, hi, hu => by
    rw [tk_cons]
    by_cases h1 : i + 1 = most ∧ last < c.toNat
    · rw [if_pos h1]; omega
    · rw [if_neg h1]
      by_cases h2 : c.toNat = 0 ∧ 0 < i
      · rw [if_pos h2]; omega
      · rw [if_neg h2]
        by_cases h3 : c.toNat < 128
        · rw [if_pos h3]
          simp only []
          rcases (show i ≤ 8 ∨ i = 9 ∧ c.toNat ≤ 1 by omega) with h | ⟨h, hc⟩
          · have h4 : 128 ^ i ≤ 128 ^ 8 := Nat.pow_le_pow_right (by omega) h
            have h5 : c.toNat % 128 ≤ 127 := by omega
            have := Nat.mul_le_mul h5 h4
            omega
          · subst h
            have h5 : c.toNat % 128 ≤ 1 := by omega
            have := Nat.mul_le_mul_right (128 ^ 9) h5
            omega
        · rw [if_neg h3]
          refine tk_lt most last hmm hl r (i + 1) _ (by omega) ?_
          have h4 : c.toNat % 128 ≤ 127 := by omega
          have := Nat.mul_le_mul_right (128 ^ i) h4
          rw [Nat.pow_succ]; omega
theorem tk_lt5 : ∀ (L : List UInt8) (i u : Nat), i < 5 → u < 128 ^ i → (tk 5 15 i u L).1 < 4294967296
  | [], i, u, hi, hu => by simp [tk]
  | c :: r, i, u, hi, hu => by
    rw [tk_cons]
    by_cases h1 : i + 1 = 5 ∧ 15 < c.toNat
    · rw [if_pos h1]; omega
    · rw [if_neg h1]
      by_cases h2 : c.toNat = 0 ∧ 0 < i
      · rw [if_pos h2]; omega
      · rw [if_neg h2]
        by_cases h3 : c.toNat < 128
        · rw [if_pos h3]
          simp only []
          rcases (show i ≤ 3 ∨ i = 4 ∧ c.toNat ≤ 15 by omega) with h | ⟨h, hc⟩
          · have h4 : 128 ^ i ≤ 128 ^ 3 := Nat.pow_le_pow_right (by omega) h
            have h5 : c.toNat % 128 ≤ 127 := by omega
            have := Nat.mul_le_mul h5 h4
            omega
          · subst h
            have h5 : c.toNat % 128 ≤ 15 := by omega
            have := Nat.mul_le_mul_right (128 ^ 4) h5
            omega
        · rw [if_neg h3]
          refine tk_lt5 r (i + 1) _ (by omega) ?_
          have h4 : c.toNat % 128 ≤ 127 := by omega
          have := Nat.mul_le_mul_right (128 ^ i) h4
          rw [Nat.pow_succ]; omega
theorem val_drop : ∀ (n j : Nat) (L : List UInt8), j ≤ n → val (n - j) (L.drop j) ≤ val n L
  | _, 0, _, _ => by simp
  | 0, j + 1, _, h => by omega
  | n + 1, j + 1, [], _ => by simp [val]
  | n + 1, j + 1, c :: r, h => by
    have := val_drop n j r (by omega)
    simp only [List.drop_succ_cons, val]
    rw [show n + 1 - (j + 1) = n - j by omega]
    omega
theorem val_step {n j : Nat} {L : List UInt8} {x : UInt8} (hj : j < n) (hx : L[j]? = some x) : val (n - j) (L.drop j) = val (n - (j + 1)) (L.drop (j + 1)) * 128 + x.toNat % 128 := by
  rw [drop_at hx, show n - j = (n - (j + 1)) + 1 by omega]; rfl
end Go.Proofs.Ytodgnlhakafhoaa.Vr
