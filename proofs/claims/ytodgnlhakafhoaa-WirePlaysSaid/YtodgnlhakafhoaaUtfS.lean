/- The layer utf: Take. -/
import Derived.Test.YtodgnlhakafhoaaUtfR
namespace Go.Proofs.Ytodgnlhakafhoaa.Ut
open Go.ChangeShapes Go.WideShapes Go.ChangeAt Go.RowKit
open Num Mem Can

def uN (xs : List UInt8) (p : Int) : Nat := if 0 ≤ p ∧ p ≤ xs.length then (utk (xs.drop p.toNat)).1 else 0
def uTo (xs : List UInt8) (p : Int) : Int := if 0 ≤ p ∧ p ≤ xs.length then p + (utk (xs.drop p.toNat)).2.1 else p
def uE (xs : List UInt8) (p : Int) : Nat := if 0 ≤ p ∧ p ≤ xs.length then (utk (xs.drop p.toNat)).2.2 else 2
theorem uN_in {xs : List UInt8} {p : Nat} (h : p ≤ xs.length) : uN xs p = (utk (xs.drop p)).1 := by unfold uN; rw [if_pos (by omega)]; rfl
theorem uTo_in {xs : List UInt8} {p : Nat} (h : p ≤ xs.length) : uTo xs p = p + (utk (xs.drop p)).2.1 := by unfold uTo; rw [if_pos (by omega)]; rfl
theorem uE_in {xs : List UInt8} {p : Nat} (h : p ≤ xs.length) : uE xs p = (utk (xs.drop p)).2.2 := by unfold uE; rw [if_pos (by omega)]; rfl
theorem uN_out {xs : List UInt8} {p : Int} (h : p < 0 ∨ (xs.length : Int) < p) : uN xs p = 0 := by unfold uN; rw [if_neg (by omega)]
theorem uTo_out {xs : List UInt8} {p : Int} (h : p < 0 ∨ (xs.length : Int) < p) : uTo xs p = p := by unfold uTo; rw [if_neg (by omega)]
theorem uE_out {xs : List UInt8} {p : Int} (h : p < 0 ∨ (xs.length : Int) < p) : uE xs p = 2 := by unfold uE; rw [if_neg (by omega)]

theorem udrop_at {L : List UInt8} {k : Nat} {x : UInt8} (h : L[k]? = some x) : L.drop k = x :: L.drop (k + 1) := by
  obtain ⟨hl, rfl⟩ := List.getElem?_eq_some_iff.1 h
  exact List.drop_eq_getElem_cons hl
theorem and192 (n : Nat) (h : n < 256) : bits BinOp.and IntKind.u8 (n : Int) 192 = ((n / 64 * 64 : Nat) : Int) := by
  have : ∀ m : Fin 256, bits BinOp.and IntKind.u8 ((m.val : Nat) : Int) 192 = ((m.val / 64 * 64 : Nat) : Int) := by decide +kernel
  exact this ⟨n, h⟩
theorem ufst_fit (a : Nat) : (ufst a).1 ≤ 4 ∧ (ufst a).2 < 128 := by
  unfold ufst
  repeat' split
  all_goals simp
  all_goals omega

set_option maxRecDepth 100000 in
set_option maxHeartbeats 1000000 in
theorem take_in (A : Option Addr) (n c B : Nat) (p : Nat) (xs : List UInt8) (w : World) (hr : Rd w B A n xs) (hp : p ≤ n) (hn : n ≤ 1000000000) :
    Calls Try.prog 29 #[.slice A n c, .int .i64 p] w fun e w' =>
      e = .returned (.tuple #[.int .i32 (utk (xs.drop p)).1, .int .i64 ((p : Int) + (utk (xs.drop p)).2.1), .int .i64 (utk (xs.drop p)).2.2]) ∧ w = w' := by
  have hLl : (xs.drop p).length = n - p := by rw [List.length_drop, hr.1]
  have hat : ∀ k x, (xs.drop p)[k]? = some x → ∃ g o, A = some ⟨g, o, none⟩ ∧ w.cell? ⟨g, o + (p + k), none⟩ = some (.int .u8 (x.toNat : Int)) := by
    intro k x hx
    rw [List.getElem?_drop] at hx
    have hl := (List.getElem?_eq_some_iff.1 hx).1
    have := hr.1
    obtain ⟨g, o, y, hA, _, hy, hc⟩ := hr.at_ (k := p + k) (by omega)
    rw [hx] at hy
    injection hy with hy
    subst hy
    exact ⟨g, o, hA, hc⟩
  generalize xs.drop p = L at hLl hat
  clear hr
  cases L with
  | nil =>
    clear hat
    have hpn : p = n := by simp at hLl; omega
    subst hpn
    clear hLl
    go_enter Try.func29, Try.ntmps29
    go_wp2
    go_ret3
    refine ⟨?_, rfl⟩
    simp [utk]
  | cons a r =>
    obtain ⟨g, o, hA, hc0⟩ := hat 0 a rfl
    subst hA
    rw [Nat.add_zero] at hc0
    have ha := a.toNat_lt
    have hlr : r.length + 1 = n - p := by simpa using hLl
    obtain ⟨N, C0, hF⟩ : ∃ N C0, ufst a.toNat = (N, C0) := ⟨_, _, rfl⟩
    have hfit := ufst_fit a.toNat
    rw [hF] at hfit
    obtain ⟨hN4, hC0⟩ := hfit
    simp only [] at hN4 hC0
    have hU := utk_cons a r
    rw [hF] at hU
    simp only [] at hU
    obtain ⟨T, hT⟩ : ∃ T, T = utk (a :: r) := ⟨_, rfl⟩
    rw [← hT] at hU ⊢
    have HF := Lib.hid hF
    have HAT := Lib.hid hat
    have hpn : p < n := by omega
    have hpne : ((p : Int) == n) = false := by simp; omega
    clear hT hF hat hLl
    by_cases hN0 : N = 0
    · subst hN0
      rw [if_pos rfl] at hU
      subst hU
      go_enter Try.func29, Try.ntmps29
      go_wp2_with fail
      refine (first_any a.toNat ha _).mono ?_
      rintro e w' ⟨rfl, rfl⟩
      rw [HF.out]
      go_wp2_with fail
      go_ret3
      exact ⟨rfl, rfl⟩
    · rw [if_neg hN0] at hU
      have hN1 : ((N : Int) == 0) = false := by simp; omega
      go_enter Try.func29, Try.ntmps29
      go_wp2_with fail
      refine (first_any a.toNat ha _).mono ?_
      rintro e w' ⟨rfl, rfl⟩
      rw [HF.out]
      go_wp2_with fail
      go_loop [4, 8] (fun ct i => ∃ k C : Nat, ct = .int .i32 C ∧ i = .int .i64 k ∧ 1 ≤ k ∧ k ≤ N ∧ k ≤ n - p ∧ ((k = 1 ∧ C < 128) ∨ (k = 2 ∧ C < 8192) ∨ (k = 3 ∧ C < 524288) ∨ (k = 4 ∧ C < 33554432)) ∧ Go.RowKit.Hid (T = uc a.toNat N (N - k) k C (r.drop (k - 1)))) (fun _ i => N - (intOf i).toNat)
      case atStart => exact ⟨1, C0, rfl, rfl, by omega, by omega, by omega, .inl ⟨rfl, hC0⟩, Lib.hid hU⟩
      case round =>
        obtain ⟨k, C, rfl, rfl, hk1, hkN, hknp, hkC, HUK⟩ := hrel
        clear hU
        by_cases hkl : k = N
        · subst hkl
          have hu := HUK.out
          rw [Nat.sub_self, uc_zero] at hu
          subst hu
          clear HUK
          go_wp2_with fail
          go_ret3
          exact ⟨rfl, rfl⟩
        · have hk3 : k < N := by omega
          cases hx : r[k - 1]? with
          | none =>
            have hrl : r.length ≤ k - 1 := List.getElem?_eq_none_iff.1 hx
            have hu := HUK.out
            rw [List.drop_eq_nil_of_le hrl, show N - k = (N - k - 1) + 1 by omega, uc_nil] at hu
            subst hu
            clear HUK hx
            have hkn : ((p : Int) + k == n) = true := by simp; omega
            go_wp2_with fail
            go_ret3
            exact ⟨by simp, rfl⟩
          | some x =>
            have hrl := (List.getElem?_eq_some_iff.1 hx).1
            have hu := HUK.out
            rw [udrop_at hx, show N - k = (N - (k + 1)) + 1 by omega, uc_cons, show k - 1 + 1 = (k + 1) - 1 by omega] at hu
            obtain ⟨g2, o2, hA2, hc⟩ := HAT.out k x (by rw [show k = (k - 1) + 1 by omega, List.getElem?_cons_succ]; exact hx)
            injection hA2 with hA2
            injection hA2 with e1 e2
            subst e1 e2
            have hkn : ((p : Int) + k == n) = false := by simp; omega
            have hkn2 : (p : Int) + k < n := by omega
            have hx255 := x.toNat_lt
            by_cases hb : x.toNat / 64 ≠ 2
            · rw [if_pos (.inl hb)] at hu
              have HU := Lib.hid hu
              clear HUK hu hx
              have hb1 : ¬ bits BinOp.and IntKind.u8 (x.toNat : Int) 192 = 128 := by rw [and192 _ hx255]; omega
              clear hb
              go_wp2_with fail
              rw [HU.out]
              go_ret3
              exact ⟨by simp, rfl⟩
            · have hb1 : bits BinOp.and IntKind.u8 (x.toNat : Int) 192 = 128 := by rw [and192 _ hx255]; omega
              have hb2 : x.toNat / 64 = 2 := by omega
              clear hb
              by_cases hk : k = 1
              · subst hk
                have hs : usec a.toNat x.toNat = true ∨ usec a.toNat x.toNat = false := by cases usec a.toNat x.toNat <;> simp
                rcases hs with hs | hs
                · rw [if_neg (by rw [hs]; simp; omega)] at hu
                  have HU := Lib.hid hu
                  have HS := Lib.hid hs
                  clear hs HUK hu hx
                  go_wp2_with fail
                  refine (second_any a.toNat x.toNat ha hx255 _).mono ?_
                  rintro e w' ⟨rfl, rfl⟩
                  rw [HS.out]
                  go_wp2_with fail
                  go_round
                  case rel => exact ⟨2, C * 64 + x.toNat % 64, by first | rfl | (congr 1; omega), rfl, by omega, by omega, by omega, by omega, HU⟩
                  case measure => simp [intOf]; omega
                · rw [if_pos (.inr ⟨rfl, hs⟩)] at hu
                  have HU := Lib.hid hu
                  have HS := Lib.hid hs
                  clear hs HUK hu hx
                  go_wp2_with fail
                  refine (second_any a.toNat x.toNat ha hx255 _).mono ?_
                  rintro e w' ⟨rfl, rfl⟩
                  rw [HS.out]
                  go_wp2_with fail
                  rw [HU.out]
                  go_ret3
                  exact ⟨by simp, rfl⟩
              · rw [if_neg (by omega)] at hu
                have HU := Lib.hid hu
                have hke : ((k : Int) == 1) = false := by simp; omega
                clear HUK hu hx
                go_wp2_with fail
                go_round
                case rel => exact ⟨k + 1, C * 64 + x.toNat % 64, by first | rfl | (congr 1; omega), rfl, by omega, by omega, by omega, by omega, HU⟩
                case measure => simp [intOf]; omega

set_option maxRecDepth 100000 in
theorem take_any (A : Option Addr) (n c B : Nat) (p : Int) (xs : List UInt8) (w : World) (hr : Rd w B A n xs) (hn : n ≤ 1000000000) (hp1 : -9223372036854775808 ≤ p) (hp2 : p ≤ 9223372036854775807) :
    Calls Try.prog 29 #[.slice A n c, .int .i64 p] w fun e w' => e = .returned (.tuple #[.int .i32 (uN xs p), .int .i64 (uTo xs p), .int .i64 (uE xs p)]) ∧ w = w' := by
  have hl := hr.len
  by_cases hin : p < 0 ∨ (xs.length : Int) < p
  · rw [uN_out hin, uTo_out hin, uE_out hin]
    rw [hl] at hin
    clear hr hl
    rcases (show p < 0 ∨ (0 ≤ p ∧ (n : Int) < p) by omega) with h | ⟨h, h'⟩
    · go_enter Try.func29, Try.ntmps29
      go_wp2
      go_ret3
      exact ⟨rfl, rfl⟩
    · go_enter Try.func29, Try.ntmps29
      go_wp2
      go_ret3
      exact ⟨rfl, rfl⟩
  · obtain ⟨q, rfl⟩ := Int.eq_ofNat_of_zero_le (show 0 ≤ p by omega)
    rw [uN_in (by omega), uTo_in (by omega), uE_in (by omega)]
    exact take_in A n c B q xs w hr (by omega) hn

theorem exec_sqd {P : Program} {dst : Option Tmp} {x y : Operand} {t t' ty : TypeId} {pos : String} {af : Array Edge} {gd : Option (Nat × Bool)} {a : Act} {l m : List UInt8} (hx : a.eval x = .string ⟨l.toArray⟩) (hy : a.eval y = .string ⟨m.toArray⟩)
    (w : World) : (execOp a.eval ⟨dst, .binOp .eql t x y t', ty, pos, af, gd⟩).run P w = .ok (.value (.bool (decide (l = m)))) w := by
  unfold execOp
  have e : (l == m) = decide (l = m) := by by_cases h : l = m <;> simp [h]
  simp [hx, hy, eqGuard, binOp_string_eql, e]
theorem refstarts_any (A A' : Option Addr) (n c n' c' B : Nat) (xs ys : List UInt8) (w : World) (hr : Rd w B A n xs) (hr' : Rd w B A' n' ys) (hnc : n ≤ c) (hB : B ≤ w.heap.size) :
    Calls Try.prog 82 #[.slice A n c, .slice A' n' c'] w fun e w' => e = .returned (.bool (decide (ys <+: xs))) ∧ Below B w w' := by
  have hl := hr.len
  have hl' := hr'.len
  by_cases hle : n' ≤ n
  · have hpre : decide (xs.take n' = ys) = decide (ys <+: xs) := by
      rw [decide_eq_decide]
      constructor
      · rintro rfl; exact List.take_prefix _ _
      · intro h; rw [List.prefix_iff_eq_take.1 h, hl']
    rw [← hpre]
    go_enter Try.func82, Try.ntmps82
    go_wp2_with fail
    refine region_can [0, 1, 2, 3, 4, 5, 6, 7, 8, 9, 10, 11, 12, 13, 14, 15] [] (by kernel_rfl) (by kernel_rfl) (by simp) (by kernel_rfl) (fun _ _ d _ _ h => by cases d <;> exact h) (fun wd hd hds => ?_)
    have Hds := Lib.hid hds
    clear hds
    have hbd := hd.mono hB
    have hrd := hr.below hbd
    have hrd' := hr'.below hbd
    repeat ((first | (refine can_pure (v := ?_) rfl rfl rfl ?_ ?_; rotate_left; · (intro w'; go_simp; try with_reducible rfl)) | (refine can_skip rfl rfl rfl ?_)); simp only [Act.put, List.setIfInBounds_toArray, List.set_cons_zero, List.set_cons_succ])
    refine can_upto rfl rfl rfl rfl rfl hrd hle hnc (fun hr6 => ?_)
    simp only [Act.put, List.setIfInBounds_toArray, List.set_cons_zero, List.set_cons_succ]
    refine can_str rfl rfl rfl rfl hr6 (by omega) ?_
    simp only [Act.put, List.setIfInBounds_toArray, List.set_cons_zero, List.set_cons_succ]
    repeat ((first | (refine can_pure (v := ?_) rfl rfl rfl ?_ ?_; rotate_left; · (intro w'; go_simp; try with_reducible rfl)) | (refine can_skip rfl rfl rfl ?_)); simp only [Act.put, List.setIfInBounds_toArray, List.set_cons_zero, List.set_cons_succ])
    refine can_str rfl rfl rfl rfl hrd' (by omega) ?_
    simp only [Act.put, List.setIfInBounds_toArray, List.set_cons_zero, List.set_cons_succ]
    refine can_pure rfl rfl rfl (exec_sqd rfl rfl) ?_
    simp only [Act.put, List.setIfInBounds_toArray, List.set_cons_zero, List.set_cons_succ]
    repeat ((first | (refine can_pure (v := ?_) rfl rfl rfl ?_ ?_; rotate_left; · (intro w'; go_simp; try with_reducible rfl)) | (refine can_skip rfl rfl rfl ?_)); simp only [Act.put, List.setIfInBounds_toArray, List.set_cons_zero, List.set_cons_succ])
    refine can_done ?_
    go_wp2
    go_ret
    exact ⟨by rw [hpre]; rfl, hbd⟩
  · have hnp : decide (ys <+: xs) = false := by
      rw [decide_eq_false_iff_not]
      intro h
      have := h.length_le
      omega
    rw [hnp]
    go_enter Try.func82, Try.ntmps82
    go_wp2
    go_quiet (fail)
    go_wp2
    go_ret
    exact ⟨rfl, (Below.refl _ _).drewN _⟩
end Go.Proofs.Ytodgnlhakafhoaa.Ut
