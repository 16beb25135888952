/- The layer varint: numbers taken, by the program and by the document. -/
import Derived.Test.YtodgnlhakafhoaaVarP
namespace Go.Proofs.Ytodgnlhakafhoaa.Vr
open Go.ChangeShapes Go.WideShapes Go.ChangeAt Go.RowKit
open Num Zg Mem

/-- what is taken at a place: the number, the place behind it, why there is none -/
def tkN (most last : Nat) (xs : List UInt8) (p : Int) : Int := if 0 ≤ p ∧ p ≤ xs.length then zag (tk most last 0 0 (xs.drop p.toNat)).1 else 0
def tkTo (most last : Nat) (xs : List UInt8) (p : Int) : Int := if 0 ≤ p ∧ p ≤ xs.length then p + (tk most last 0 0 (xs.drop p.toNat)).2.1 else p
def tkE (most last : Nat) (xs : List UInt8) (p : Int) : Int := if 0 ≤ p ∧ p ≤ xs.length then (tk most last 0 0 (xs.drop p.toNat)).2.2 else 2

theorem val_zero {L : List UInt8} {k : Nat} {e : UInt8} (h : L[k]? = some e) : val 0 (L.drop k) = e.toNat := by rw [drop_at h]; rfl

set_option maxRecDepth 100000 in
set_option maxHeartbeats 1000000 in
theorem reftake_any (A : Option Addr) (n c B : Nat) (p : Nat) (xs : List UInt8) (most last : Nat) (w : World) (hr : Rd w B A n xs) (hp : p ≤ n) (hn : n ≤ 1000000000)
    (hm1 : 2 ≤ most) (hm : most ≤ 9 ∨ most = 10 ∧ last ≤ 1) (hlast : last < 128) :
    Calls Try.prog 54 #[.slice A n c, .int .i64 p, .int .i64 most, .int .u8 last] w fun e w' =>
      e = .returned (.tuple #[.int .i64 (zag (tk most last 0 0 (xs.drop p)).1), .int .i64 ((p : Int) + (tk most last 0 0 (xs.drop p)).2.1), .int .i64 (tk most last 0 0 (xs.drop p)).2.2]) ∧ w = w' := by
  rw [tk_eq most last (by omega) hlast]
  have hLl : (xs.drop p).length = n - p := by rw [List.length_drop, hr.1]
  have hat : ∀ k x, (xs.drop p)[k]? = some x → ∃ g o, A = some ⟨g, o, none⟩ ∧ w.cell? ⟨g, o + (p + k), none⟩ = some (.int .u8 (x.toNat : Int)) := by
    intro k x hx
    rw [List.getElem?_drop] at hx
    have hl := (List.getElem?_eq_some_iff.1 hx).1
    have := hr.1
    obtain ⟨g, o, y, hA, _, hy, hc⟩ := hr.at_ (k := p + k) (by omega)
    rw [hx] at hy
    injection hy with hy
    subst hy
    exact ⟨g, o, hA, hc⟩
  generalize xs.drop p = L at hLl hat
  obtain ⟨q, hq⟩ : ∃ q, q = lead (most - 1) L := ⟨_, rfl⟩
  have HQ := Lib.hid hq
  have HAT := Lib.hid hat
  have hq1 := lead_le (most - 1) L
  rw [← hq] at hq1
  clear hat hq hr
  go_enter Try.func54, Try.ntmps54
  go_wp2
  go_loop [11] (fun i => ∃ k : Nat, i = .int .i64 k ∧ k ≤ q) (fun i => q - (intOf i).toNat)
  case atStart => exact ⟨0, rfl, Nat.zero_le _⟩
  case round =>
    obtain ⟨k, rfl, hk⟩ := hrel
    by_cases hkq : k < q
    · obtain ⟨x, hx⟩ : ∃ x, L[k]? = some x := ⟨L[k]'(by omega), List.getElem?_eq_getElem (by omega)⟩
      obtain ⟨g, o, hA, hc⟩ := HAT.out k x hx
      have hb := lead_byte (most - 1) L k x (by rw [← HQ.out]; exact hkq) hx
      subst hA
      clear hx
      go_wp2
      refine ⟨⟨k + 1, by omega, by omega⟩, by simp [intOf]; omega⟩
    · obtain rfl : k = q := by omega
      clear hk hkq
      cases hx : L[k]? with
      | none =>
        have hkl : L.length ≤ k := List.getElem?_eq_none_iff.1 hx
        have hT : tkr most last L = (0, 0, 10) := by
          unfold tkr; rw [← HQ.out, hx]
        have HT := Lib.hid hT
        clear hT hx
        have hpk : p + k = n := by omega
        have hge : ¬ ((p : Int) + k < n) := by omega
        have heq : ((p : Int) + k == n) = true := by simp; omega
        clear hpk hLl
        go_wp2
        go_ret3
        refine ⟨?_, rfl⟩
        rw [HT.out]; simp [zag]
      | some e =>
        have hkl := (List.getElem?_eq_some_iff.1 hx).1
        obtain ⟨g, o, hA, hc⟩ := HAT.out k e hx
        subst hA
        have he255 := e.toNat_lt
        have hst : k = most - 1 ∨ (k < most - 1 ∧ e.toNat < 128) := by
          by_cases h : k = most - 1
          · exact .inl h
          · exact .inr ⟨by omega, lead_stop (most - 1) L e (by rw [← HQ.out]; omega) (by rw [← HQ.out]; exact hx)⟩
        have hlt : ((p : Int) + k < n) := by omega
        have hne : ((p : Int) + k == n) = false := by simp; omega
        have hT : tkr most last L = if (k = most - 1 ∧ last < e.toNat) ∨ (0 < k ∧ e.toNat = 0) then (0, 0, 11) else (val k L, k + 1, 0) := by
          unfold tkr; rw [← HQ.out, hx]
        by_cases hF : (k = most - 1 ∧ last < e.toNat) ∨ (0 < k ∧ e.toNat = 0)
        · rw [if_pos hF] at hT
          have HT := Lib.hid hT
          clear hT hx hLl HAT
          rcases (show (k = most - 1 ∧ last < e.toNat) ∨ (k = most - 1 ∧ ¬ last < e.toNat ∧ 0 < k ∧ e.toNat = 0) ∨ (k < most - 1 ∧ e.toNat < 128 ∧ 0 < k ∧ e.toNat = 0) by omega) with ⟨f1, f2⟩ | ⟨f1, f2, f3, f4⟩ | ⟨f1, f2, f3, f4⟩
          · have t1 : ¬ ((k : Int) < (most : Int) - 1) := by omega
            have t2 : ((k : Int) == (most : Int) - 1) = true := by simp; omega
            clear f1 hF hst
            go_wp2
            go_ret3
            refine ⟨?_, rfl⟩
            rw [HT.out]; simp [zag]
          · have t1 : ¬ ((k : Int) < (most : Int) - 1) := by omega
            have t2 : ((k : Int) == (most : Int) - 1) = true := by simp; omega
            have t3 : ((e.toNat : Int) == 0) = true := by simp; omega
            clear f1 hF hst f4
            go_wp2
            go_ret3
            refine ⟨?_, rfl⟩
            rw [HT.out]; simp [zag]
          · have t1 : ((k : Int) < (most : Int) - 1) := by omega
            have t2 : ((k : Int) == (most : Int) - 1) = false := by simp; omega
            have t3 : ((e.toNat : Int) == 0) = true := by simp; omega
            clear f1 hF hst f4
            go_wp2
            go_ret3
            refine ⟨?_, rfl⟩
            rw [HT.out]; simp [zag]
        · rw [if_neg hF] at hT
          have hv : val k L < 18446744073709551616 := by
            have := tk_lt most last hm hlast L 0 0 (by omega) (by simp)
            rw [tk_eq most last (by omega) hlast, hT] at this
            exact this
          have hv0 := val_zero hx
          have HT := Lib.hid hT
          have HV0 := Lib.hid hv0
          clear hT hx hv0
          rcases (show (k = most - 1 ∧ ¬ last < e.toNat ∧ 0 < k ∧ e.toNat ≠ 0) ∨ (k < most - 1 ∧ e.toNat < 128 ∧ 0 < k ∧ e.toNat ≠ 0) ∨ (k < most - 1 ∧ e.toNat < 128 ∧ k = 0) by omega) with ⟨f1, f2, f3, f4⟩ | ⟨f1, f2, f3, f4⟩ | ⟨f1, f2, f3⟩
          · have t1 : ¬ ((k : Int) < (most : Int) - 1) := by omega
            have t2 : ((k : Int) == (most : Int) - 1) = true := by simp; omega
            have t3 : ((e.toNat : Int) == 0) = false := by simp; omega
            clear f1 hF hst f4
            go_wp2
            go_loop [13, 14] (fun v i => ∃ j : Nat, j ≤ k ∧ v = .int .u64 (val (k - j) (L.drop j) : Nat) ∧ i = .int .i64 ((j : Int) - 1)) (fun _ i => (intOf i + 1).toNat)
            case atStart => exact ⟨k, Nat.le_refl _, by rw [Nat.sub_self, HV0.out], rfl⟩
            case round =>
              obtain ⟨j, hj, rfl, rfl⟩ := hrel
              by_cases h0 : 0 < j
              · obtain ⟨i, rfl⟩ : ∃ i, j = i + 1 := ⟨j - 1, by omega⟩
                obtain ⟨x, hx⟩ : ∃ x, L[i]? = some x := ⟨L[i]'(by omega), List.getElem?_eq_getElem (by omega)⟩
                obtain ⟨g', o', hA', hc'⟩ := HAT.out i x hx
                injection hA' with hA'
                injection hA' with e1 e2
                subst e1 e2
                have hs := val_step (n := k) (j := i) (by omega) hx
                have hle := val_drop k i L (by omega)
                have hx255 := x.toNat_lt
                generalize val (k - (i + 1)) (L.drop (i + 1)) = V at hs ⊢
                have hV : V * 128 + x.toNat % 128 < 18446744073709551616 := by omega
                have HS := Lib.hid hs
                clear hs hle hx
                have e3 : ((i + 1 : Nat) : Int) - 1 = (i : Int) := by omega
                rw [e3]
                clear e3
                go_wp2
                go_round
                case rel => exact ⟨i, by omega, by rw [HS.out]; rfl, rfl⟩
                case measure => simp [intOf]
              · obtain rfl : j = 0 := by omega
                have e3 : ((0 : Nat) : Int) - 1 = -1 := by omega
                rw [e3, Nat.sub_zero, List.drop_zero]
                clear e3
                go_wp2_with fail
                refine (refzag_any _ (by omega) (by omega) _).mono ?_
                rintro e' w' ⟨rfl, rfl⟩
                go_wp2_with fail
                go_ret3
                refine ⟨?_, rfl⟩
                rw [HT.out]; simp; omega
          · have t1 : ((k : Int) < (most : Int) - 1) := by omega
            have t2 : ((k : Int) == (most : Int) - 1) = false := by simp; omega
            have t3 : ((e.toNat : Int) == 0) = false := by simp; omega
            clear f1 hF hst f4
            go_wp2
            go_loop [13, 14] (fun v i => ∃ j : Nat, j ≤ k ∧ v = .int .u64 (val (k - j) (L.drop j) : Nat) ∧ i = .int .i64 ((j : Int) - 1)) (fun _ i => (intOf i + 1).toNat)
            case atStart => exact ⟨k, Nat.le_refl _, by rw [Nat.sub_self, HV0.out], rfl⟩
            case round =>
              obtain ⟨j, hj, rfl, rfl⟩ := hrel
              by_cases h0 : 0 < j
              · obtain ⟨i, rfl⟩ : ∃ i, j = i + 1 := ⟨j - 1, by omega⟩
                obtain ⟨x, hx⟩ : ∃ x, L[i]? = some x := ⟨L[i]'(by omega), List.getElem?_eq_getElem (by omega)⟩
                obtain ⟨g', o', hA', hc'⟩ := HAT.out i x hx
                injection hA' with hA'
                injection hA' with e1 e2
                subst e1 e2
                have hs := val_step (n := k) (j := i) (by omega) hx
                have hle := val_drop k i L (by omega)
                have hx255 := x.toNat_lt
                generalize val (k - (i + 1)) (L.drop (i + 1)) = V at hs ⊢
                have hV : V * 128 + x.toNat % 128 < 18446744073709551616 := by omega
                have HS := Lib.hid hs
                clear hs hle hx
                have e3 : ((i + 1 : Nat) : Int) - 1 = (i : Int) := by omega
                rw [e3]
                clear e3
                go_wp2
                go_round
                case rel => exact ⟨i, by omega, by rw [HS.out]; rfl, rfl⟩
                case measure => simp [intOf]
              · obtain rfl : j = 0 := by omega
                have e3 : ((0 : Nat) : Int) - 1 = -1 := by omega
                rw [e3, Nat.sub_zero, List.drop_zero]
                clear e3
                go_wp2_with fail
                refine (refzag_any _ (by omega) (by omega) _).mono ?_
                rintro e' w' ⟨rfl, rfl⟩
                go_wp2_with fail
                go_ret3
                refine ⟨?_, rfl⟩
                rw [HT.out]; simp; omega
          · have t1 : ((k : Int) < (most : Int) - 1) := by omega
            have t2 : ((k : Int) == (most : Int) - 1) = false := by simp; omega
            clear f1 hF hst
            subst f3
            have hc0 : w.cell? ⟨g, o + p, none⟩ = some (.int .u8 (e.toNat : Int)) := hc
            have hlt0 : (p : Int) < n := by omega
            have hne0 : ((p : Int) == n) = false := by simp; omega
            have t10 : (0 : Int) < (most : Int) - 1 := by omega
            have t20 : ((0 : Int) == (most : Int) - 1) = false := by simp; omega
            go_wp2
            go_loop [13, 14] (fun v i => v = .int .u64 (e.toNat : Nat) ∧ i = .int .i64 (-1)) (fun _ i => (intOf i + 1).toNat)
            case atStart => exact ⟨rfl, rfl⟩
            case round =>
              obtain ⟨rfl, rfl⟩ := hrel
              go_wp2_with fail
              refine (refzag_any _ (by omega) (by omega) _).mono ?_
              rintro e' w' ⟨rfl, rfl⟩
              go_wp2_with fail
              go_ret3
              refine ⟨?_, rfl⟩
              have h0 := HV0.out
              rw [List.drop_zero] at h0
              rw [HT.out, h0]; simp
end Go.Proofs.Ytodgnlhakafhoaa.Vr
