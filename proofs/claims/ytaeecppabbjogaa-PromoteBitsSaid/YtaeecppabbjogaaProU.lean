/- The layer promote: the document's Round. -/
import Derived.Test.YtaeecppabbjogaaProT
namespace Go.Proofs.Ytaeecppabbjogaa.Pro
open Go.ChangeShapes Go.WideShapes Go.ChangeAt Go.RowKit
open Num Zg ZgW ProN

def hb (u : Nat) : Nat → Bool
  | 0 => false
  | k + 1 => decide (u / 2 ^ k % 2 = 1)
def mb (u : Nat) : Nat → Bool
  | 0 => false
  | k + 1 => decide (u % 2 ^ k ≠ 0)
theorem hb_succ (u k : Nat) : hb u (k + 1) = decide (u / 2 ^ k % 2 = 1) := rfl
theorem mb_succ (u k : Nat) : mb u (k + 1) = decide (u % 2 ^ k ≠ 0) := rfl
theorem mb_next (u k : Nat) : mb u (k + 1) = (mb u k || hb u k) := by
  cases k with
  | zero => simp [mb, hb, Nat.mod_one]
  | succ j =>
    rw [mb_succ, mb_succ, hb_succ, Nat.mod_pow_succ]
    have hp : 0 < 2 ^ j := Nat.pow_pos (by omega)
    rcases (show u / 2 ^ j % 2 = 0 ∨ u / 2 ^ j % 2 = 1 by omega) with h | h
    · rw [h]; simp
    · rw [h]; simp
theorem rnd_done (u d : Nat) (hd1 : 1 ≤ d) (hd : d ≤ 64) : rnd u d = if hb u d = true ∧ (mb u d = true ∨ u / 2 ^ d % 2 = 1) then u / 2 ^ d + 1 else u / 2 ^ d := by
  obtain ⟨j, rfl⟩ : ∃ j, d = j + 1 := ⟨d - 1, by omega⟩
  rw [hb_succ, mb_succ]
  unfold rnd
  rw [if_neg (by omega), if_neg (by omega), Nat.add_sub_cancel, Nat.mod_pow_succ]
  have hp : 0 < 2 ^ j := Nat.pow_pos (by omega)
  have hm : u % 2 ^ j < 2 ^ j := Nat.mod_lt _ hp
  generalize 2 ^ j = H at hp hm ⊢
  generalize u % H = m at hm ⊢
  generalize u / 2 ^ (j + 1) = q
  rcases (show u / H % 2 = 0 ∨ u / H % 2 = 1 by omega) with h | h
  · rw [h]
    simp
    exact ⟨by omega, fun h => by omega⟩
  · rw [h]
    simp
    by_cases h1 : m = 0
    · subst h1; simp
    · simp [h1, show 0 < m by omega]
theorem rnd_none (u k d : Nat) (hk : k ≤ d) (h0 : u / 2 ^ k = 0) (h1 : hb u k = false) (hkd : k < d ∨ 64 < d) : rnd u d = 0 := by
  have hu : u < 2 ^ k := by
    rw [Nat.div_eq_zero_iff] at h0
    rcases h0 with h | h
    · have := Nat.pow_pos (n := k) (show 0 < 2 by omega); omega
    · exact h
  unfold rnd
  by_cases hd0 : d = 0
  · subst hd0; rw [if_pos rfl]
    obtain rfl : k = 0 := by omega
    simpa using hu
  · rw [if_neg hd0]
    by_cases hd : 64 < d
    · rw [if_pos hd]
    · rw [if_neg hd]
      have hkd' : k ≤ d - 1 := by omega
      have hp : 2 ^ k ≤ 2 ^ (d - 1) := Nat.pow_le_pow_right (by omega) hkd'
      have hq : 2 ^ (d - 1) ≤ 2 ^ d := Nat.pow_le_pow_right (by omega) (by omega)
      rw [Nat.mod_eq_of_lt (by omega), Nat.div_eq_of_lt (by omega), if_neg (by omega)]

set_option maxRecDepth 100000 in
theorem refround_any (u d : Nat) (hu : u ≤ 18446744073709551615) (hd : d ≤ 18446744073709551615) (w : World) :
    Calls Try.prog 35 #[.int .u64 u, .int .u64 d] w fun e w' => e = .returned (.int .u64 (rnd u d)) ∧ w = w' := by
  obtain ⟨R, hR⟩ : ∃ R, R = rnd u d := ⟨_, rfl⟩
  rw [← hR]
  have HR := Lib.hid hR
  clear hR
  go_enter Try.func35, Try.ntmps35
  go_wp2_with fail
  go_loop [0, 5, 6, 7] (fun x h m i => ∃ k : Nat, x = .int .u64 ((u / 2 ^ k : Nat) : Int) ∧ h = .bool (hb u k) ∧ m = .bool (mb u k) ∧ i = .int .u64 k ∧ k ≤ d ∧ k ≤ 66) (fun _ _ _ i => 66 - (intOf i).toNat)
  case atStart => exact ⟨0, by simp, rfl, rfl, rfl, by omega, by omega⟩
  case round =>
    obtain ⟨k, rfl, rfl, rfl, rfl, hk, hk6⟩ := hrel
    have hUle : u / 2 ^ k ≤ u := Nat.div_le_self _ _
    have hstep : u / 2 ^ (k + 1) = u / 2 ^ k / 2 := by rw [Nat.pow_succ, Nat.div_div_eq_div_mul]
    have hhb : hb u (k + 1) = decide (u / 2 ^ k % 2 = 1) := rfl
    have hmb := mb_next u k
    have hbig : 65 ≤ k → u / 2 ^ k = 0 ∧ hb u k = false := by
      intro h
      have h1 : 2 ^ 65 ≤ 2 ^ k := Nat.pow_le_pow_right (by omega) h
      have h2 : 2 ^ 64 ≤ 2 ^ (k - 1) := Nat.pow_le_pow_right (by omega) (by omega)
      have e65 : (2 : Nat) ^ 65 = 36893488147419103232 := by decide +kernel
      have e64 : (2 : Nat) ^ 64 = 18446744073709551616 := by decide +kernel
      rw [e65] at h1
      rw [e64] at h2
      refine ⟨Nat.div_eq_of_lt (by omega), ?_⟩
      obtain ⟨j, rfl⟩ : ∃ j, k = j + 1 := ⟨k - 1, by omega⟩
      rw [Nat.add_sub_cancel] at h2
      rw [hb_succ, Nat.div_eq_of_lt (by omega)]; rfl
    have hexit : (k = d ∨ (u / 2 ^ k = 0 ∧ hb u k = false)) → R = if hb u k = true ∧ (mb u k = true ∨ u / 2 ^ k % 2 = 1) then u / 2 ^ k + 1 else u / 2 ^ k := by
      intro h
      rw [HR.out]
      by_cases hkd : k = d
      · subst hkd
        by_cases h0 : k = 0
        · subst h0
          rw [if_neg (by simp [hb])]
          unfold rnd; rw [if_pos rfl]; simp
        · by_cases h64 : k ≤ 64
          · exact rnd_done u k (by omega) h64
          · obtain ⟨g1, g2⟩ := hbig (by omega)
            rw [g2, g1, if_neg (by simp)]
            exact rnd_none u k k (Nat.le_refl _) g1 g2 (.inr (by omega))
      · rcases h with h | ⟨g1, g2⟩
        · exact absurd h hkd
        · rw [g2, g1, if_neg (by simp)]
          exact rnd_none u k d hk g1 g2 (.inl (by omega))
    have hUb : hb u k = true → u / 2 ^ k ≤ 9223372036854775807 := by
      intro h
      have hk0 : k ≠ 0 := by rintro rfl; cases h
      have : u / 2 ^ k ≤ u / 2 ^ 1 := Nat.div_le_div_left (Nat.pow_le_pow_right (by omega) (by omega)) (by omega)
      omega
    have hk5 : ¬ (u / 2 ^ k = 0 ∧ hb u k = false) → k < 65 := by
      intro h
      rcases Nat.lt_or_ge k 65 with h2 | h2
      · exact h2
      · exact absurd (hbig h2) h
    have HN1 := Lib.hid hstep
    have HN2 := Lib.hid hhb
    have HN3 := Lib.hid hmb
    clear hbig hstep hhb hmb
    generalize u / 2 ^ k = U at hUle hexit hUb hk5 HN1 HN2
    generalize hb u k = H at hexit hUb hk5 HN3
    generalize mb u k = M at hexit HN3
    have HEX := Lib.hid hexit
    have hUb' : H = true → U ≤ 9223372036854775807 := hUb
    have HUB := Lib.hid hUb
    have HK5 := Lib.hid hk5
    clear hexit hUb hUb' hk5
    have hpar : ((U : Int) % 2 == 1) = decide (U % 2 = 1) := by
      by_cases h : U % 2 = 1
      · rw [decide_eq_true h, beq_iff_eq]; omega
      · rw [decide_eq_false h, beq_eq_false_iff_ne]; omega
    by_cases hkd : k = d
    · subst hkd
      have hRr := HEX.out (.inl rfl)
      cases H with
      | false =>
        have HRr := Lib.hid hRr
        clear hRr HEX hpar
        go_wp2_with fail
        go_ret
        exact ⟨by rw [HRr.out]; rfl, rfl⟩
      | true =>
        have hU63 := HUB.out rfl
        cases M with
        | true =>
          have HRr := Lib.hid hRr
          clear hRr HEX hpar
          go_wp2_with fail
          go_ret
          exact ⟨by rw [HRr.out]; rfl, rfl⟩
        | false =>
          by_cases hp : U % 2 = 1
          · rw [if_pos ⟨rfl, .inr hp⟩] at hRr
            rw [decide_eq_true hp] at hpar
            have HRr := Lib.hid hRr
            clear hRr HEX hp
            go_wp2_with fail
            go_ret
            exact ⟨by rw [HRr.out]; rfl, rfl⟩
          · rw [if_neg (by rintro ⟨_, h | h⟩; cases h; exact hp h)] at hRr
            rw [decide_eq_false hp] at hpar
            have HRr := Lib.hid hRr
            clear hRr HEX hp
            go_wp2_with fail
            go_ret
            exact ⟨by rw [HRr.out] <;> rfl, rfl⟩
    · have hkdi : (k : Int) < d := by omega
      by_cases hz : U = 0 ∧ H = false
      · obtain ⟨rfl, rfl⟩ := hz
        have hRr := HEX.out (.inr ⟨rfl, rfl⟩)
        have HRr := Lib.hid hRr
        clear hRr HEX hpar
        go_wp2_with fail
        go_ret
        exact ⟨by rw [HRr.out]; rfl, rfl⟩
      · have hk65 := HK5.out hz
        have hUH : 0 < U ∨ (U = 0 ∧ H = true) := by
          rcases Nat.eq_zero_or_pos U with h | h
          · exact .inr ⟨h, by cases H; exact absurd ⟨h, rfl⟩ hz; rfl⟩
          · exact .inl h
        clear HEX hz HUB
        rcases hUH with hU | ⟨rfl, rfl⟩
        · have hUi : (0 : Int) < U := by omega
          cases M
          all_goals cases H
          all_goals
            go_wp2_with fail
            go_round
            case rel => exact ⟨k + 1, by rw [HN1.out]; simp, by rw [HN2.out, ← hpar], by rw [HN3.out]; rfl, by simp, by omega, by omega⟩
            case measure => simp [intOf]; omega
        · cases M
          all_goals
            go_wp2_with fail
            go_round
            case rel => exact ⟨k + 1, by rw [HN1.out]; simp, by rw [HN2.out]; rfl, by rw [HN3.out]; rfl, by simp, by omega, by omega⟩
            case measure => simp [intOf]; omega
end Go.Proofs.Ytaeecppabbjogaa.Pro
