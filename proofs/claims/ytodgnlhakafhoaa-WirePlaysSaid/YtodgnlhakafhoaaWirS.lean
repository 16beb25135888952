/- The layer wire: the document's reader, truths, bits, bytes and texts. Printed by wip/refgen2.py. -/
import Derived.Test.YtodgnlhakafhoaaWirR
namespace Go.Proofs.Ytodgnlhakafhoaa.Wr
open Go.ChangeShapes Go.WideShapes Go.ChangeAt Go.RowKit
open Num Mem Can

set_option maxRecDepth 100000 in
set_option maxHeartbeats 4000000 in
theorem rbool_any (g : Nat) (A : Option Addr) (n c B : Nat) (a e : Int) (xs : List UInt8) (w : World) (hx : Bxr w g A n c a e) (hg : g < w.heap.size) (hr : Rd w B A n xs) (hB : B ≤ g) (hnc : n ≤ c) (hn : n ≤ 1000000000) :
    Calls Try.prog 66 #[.pointer (some ⟨g, 0, none⟩)] w fun e' w' => e' = .returned (.int .i64 (blN n xs a e)) ∧ Bxr w' g A n c (blT n xs a e) (blE n xs a e) ∧ Off g w.heap.size w w' := by
  have hl := hr.len
  have hf := rfixed_any g A n c B a e 1 xs w hx hg hr hB hnc hn
  unfold fxT fxY at hf
  by_cases h1 : nxE n a e 1 = 0
  · rw [h1, if_pos rfl, if_pos rfl] at hf
    obtain ⟨rfl, h2, h3, h4⟩ := nxE_zero h1
    obtain ⟨q, rfl⟩ := Int.eq_ofNat_of_zero_le h2
    obtain ⟨x, hxx⟩ : ∃ x, xs[q]? = some x := ⟨xs[q]'(by omega), List.getElem?_eq_getElem (by omega)⟩
    have hb : byteAt xs q = x.toNat := by unfold byteAt; simp [List.getD, hxx]
    have hd : (xs.drop ((q : Int)).toNat).take (max (1 : Int) 0).toNat = [x] := by
      obtain ⟨h2, rfl⟩ := List.getElem?_eq_some_iff.1 hxx
      rw [Int.toNat_natCast, show (max (1 : Int) 0).toNat = 1 by decide, List.drop_eq_getElem_cons h2]; rfl
    rw [hd, show max (1 : Int) 0 = 1 by decide] at hf
    clear hd hxx
    by_cases h5 : 1 < x.toNat
    · have hE : blE n xs q 0 = 11 := by unfold blE; rw [if_neg (by simp [h1]), hb, if_pos h5]
      unfold blN blT
      rw [hE, if_neg (by omega), if_neg (by omega)]
      have h6 : ((x.toNat : Int) != 0) = true := by simp; omega
      have h7 : ((x.toNat : Int) != 1) = true := by simp; omega
      have h8 : ¬ (x.toNat : Int) = 0 := by omega
      have h9 : ¬ (x.toNat : Int) = 1 := by omega
      clear hE h1 hb h5
      obtain ⟨⟨r0, r1, r2⟩, k0, k1, k2⟩ := hx
      go_enter Try.func66, Try.ntmps66
      go_wp2_with fail
      refine hf.mono ?_
      rintro e' w1 ⟨A1, m1, c1, rfl, hm1, hy1, hF1, hx1, ho1⟩
      clear r0 r1 r2 k0 k1 k2
      obtain ⟨⟨r0, r1, r2⟩, k0, k1, k2⟩ := hx1
      obtain rfl : m1 = 1 := by simpa using hy1.len.symm
      obtain ⟨f, o, y, hA, hfB, hy, hc⟩ := hy1.at_ (k := 0) (by omega)
      subst hA
      obtain rfl : x = y := by simpa using hy
      rw [Nat.add_zero] at hc
      have hfg : ¬ f = g := by have := hF1 (by omega) _ rfl; simp only at this; omega
      clear hF1 hy1 hy hf
      go_wp2
      go_ret
      exact ⟨rfl, ⟨⟨by go_simp, by go_simp, by go_simp⟩, by go_simp, by go_simp, by go_simp⟩, by repeat' (first | with_reducible exact Off.refl _ _ _ | with_reducible assumption | with_reducible refine Off.drew ?_ | with_reducible refine Off.setAt ?_ _ _ | with_reducible refine Off.alloc ?_ (by simp <;> omega) _)⟩
    · have hE : blE n xs q 0 = 0 := by unfold blE; rw [if_neg (by simp [h1]), hb, if_neg h5]
      unfold blN blT
      rw [hE, if_pos rfl, if_pos rfl, hb]
      clear hE h1 hb
      rcases (show x.toNat = 0 ∨ x.toNat = 1 by omega) with h | h
      all_goals
        rw [h]
        clear h5
        obtain ⟨⟨r0, r1, r2⟩, k0, k1, k2⟩ := hx
        go_enter Try.func66, Try.ntmps66
        go_wp2_with fail
        refine hf.mono ?_
        rintro e' w1 ⟨A1, m1, c1, rfl, hm1, hy1, hF1, hx1, ho1⟩
        clear r0 r1 r2 k0 k1 k2
        obtain ⟨⟨r0, r1, r2⟩, k0, k1, k2⟩ := hx1
        obtain rfl : m1 = 1 := by simpa using hy1.len.symm
        obtain ⟨f, o, y, hA, hfB, hy, hc⟩ := hy1.at_ (k := 0) (by omega)
        subst hA
        obtain rfl : x = y := by simpa using hy
        rw [Nat.add_zero] at hc
        have hfg : ¬ f = g := by have := hF1 (by omega) _ rfl; simp only at this; omega
        clear hF1 hy1 hy hf
        rw [h] at hc
        go_wp2
        go_ret
        exact ⟨rfl, ⟨⟨by go_simp, by go_simp, by go_simp⟩, by go_simp, by go_simp, by go_simp⟩, by repeat' (first | with_reducible exact Off.refl _ _ _ | with_reducible assumption | with_reducible refine Off.drew ?_ | with_reducible refine Off.setAt ?_ _ _ | with_reducible refine Off.alloc ?_ (by simp <;> omega) _)⟩
  · have hE : blE n xs a e = nxE n a e 1 := by unfold blE; rw [if_pos h1]
    unfold blN blT
    rw [hE, if_neg h1, if_neg h1]
    rw [if_neg h1, if_neg h1] at hf
    generalize nxE n a e 1 = E at *
    have h6 : (E != 0) = true := by simp [h1]
    clear hE
    obtain ⟨⟨r0, r1, r2⟩, k0, k1, k2⟩ := hx
    go_enter Try.func66, Try.ntmps66
    go_wp2_with fail
    refine hf.mono ?_
    rintro e' w1 ⟨A1, m1, c1, rfl, hm1, hy1, hF1, hx1, ho1⟩
    clear r0 r1 r2 k0 k1 k2
    obtain ⟨⟨r0, r1, r2⟩, k0, k1, k2⟩ := hx1
    go_wp2
    go_ret
    exact ⟨rfl, ⟨⟨by go_simp, by go_simp, by go_simp⟩, by go_simp, by go_simp, by go_simp⟩, by repeat' (first | with_reducible exact Off.refl _ _ _ | with_reducible assumption | with_reducible refine Off.drew ?_ | with_reducible refine Off.setAt ?_ _ _ | with_reducible refine Off.alloc ?_ (by simp <;> omega) _)⟩

theorem btU_fxY (n : Nat) (xs : List UInt8) (a e k : Int) : btU n xs a e k = leV (fxY n xs a e (min k 8)) := by
  unfold btU fxY; split <;> rfl
theorem fxY_len (n : Nat) (xs : List UInt8) (a e k : Int) : (fxY n xs a e (min k 8)).length ≤ 8 := by
  unfold fxY; split
  · rw [List.length_take]; omega
  · simp
set_option maxRecDepth 100000 in
set_option maxHeartbeats 4000000 in
theorem rbits_any (g : Nat) (A : Option Addr) (n c B : Nat) (a e k : Int) (xs : List UInt8) (w : World) (hx : Bxr w g A n c a e) (hg : g < w.heap.size) (hr : Rd w B A n xs) (hB : B ≤ g) (hnc : n ≤ c) (hn : n ≤ 1000000000) :
    Calls Try.prog 69 #[.pointer (some ⟨g, 0, none⟩), .int .i64 k] w fun e' w' => e' = .returned (.int .u64 (btU n xs a e k)) ∧ Bxr w' g A n c (fxT n a e (min k 8)) (nxE n a e (min k 8)) ∧ Off g w.heap.size w w' := by
  have hf := rfixed_any g A n c B a e (min k 8) xs w hx hg hr hB hnc hn
  rw [btU_fxY]
  have HY8 := Lib.hid (fxY_len n xs a e k)
  generalize fxY n xs a e (min k 8) = Y at *
  generalize fxT n a e (min k 8) = T at *
  generalize nxE n a e (min k 8) = E at *
  by_cases h8 : 8 < k
  · rw [show min k 8 = 8 by omega] at hf
    go_enter Try.func69, Try.ntmps69
    go_wp2_with fail
    refine hf.mono ?_
    rintro e' w1 ⟨A1, m1, c1, rfl, hm1, hy1, hF1, hx1, ho1⟩
    have hml := hy1.len
    have hY8 := HY8.out
    clear hf hF1
    go_wp2_with fail
    go_loopw [6, 7] (fun u i wr => ∃ j : Nat, i = .int .i64 ((j : Int) - 1) ∧ j ≤ m1 ∧ u = .int .u64 ((leV (Y.drop j) : Nat) : Int) ∧ wr = w1) (fun _ i _ => (intOf i + 1).toNat)
    case atStart => exact ⟨m1, rfl, Nat.le_refl _, by rw [List.drop_of_length_le (by omega)]; rfl, rfl⟩
    case round =>
      obtain ⟨j, rfl, hj, rfl, rfl⟩ := hrel
      rcases Nat.eq_zero_or_pos j with h0 | h0
      · subst h0
        rw [List.drop_zero]
        clear hY8 hml
        go_wp2
        go_ret
        exact ⟨rfl, hx1, ho1⟩
      · obtain ⟨i, rfl⟩ : ∃ i, j = i + 1 := ⟨j - 1, by omega⟩
        obtain ⟨f, o, y, hA, hfB, hy, hc⟩ := hy1.at_ (k := i) (by omega)
        subst hA
        have hyv := y.toNat_lt
        have hlev : leV (Y.drop i) = y.toNat + 256 * leV (Y.drop (i + 1)) := by
          obtain ⟨h2, rfl⟩ := List.getElem?_eq_some_iff.1 hy
          rw [List.drop_eq_getElem_cons h2]; rfl
        have hlt := leV_lt (Y.drop i)
        have hpw : 256 ^ (Y.drop i).length ≤ 256 ^ 8 := Nat.pow_le_pow_right (by omega) (by rw [List.length_drop]; omega)
        rw [hlev] at hlt
        have h88 : (256 : Nat) ^ 8 = 18446744073709551616 := by decide
        rw [h88] at hpw
        have HL := Lib.hid hlev
        generalize leV (Y.drop (i + 1)) = V at *
        have e1 : ((i + 1 : Nat) : Int) - 1 = i := by omega
        rw [e1]
        have hb1 : (V : Int) * 256 ≤ 18446744073709551615 := by omega
        have hb2 : (V : Int) * 256 + y.toNat ≤ 18446744073709551615 := by omega
        have hii : i ≤ 8 := by omega
        clear hlt hpw h88 hlev hy hY8 hml e1
        go_wp2
        go_roundw
        case rel => exact ⟨i, by simp, by omega, by rw [HL.out]; congr 1; omega, by first | rfl | trivial⟩
        case measure => simp [intOf] <;> omega
  · rw [show min k 8 = k by omega] at hf
    go_enter Try.func69, Try.ntmps69
    go_wp2_with fail
    refine hf.mono ?_
    rintro e' w1 ⟨A1, m1, c1, rfl, hm1, hy1, hF1, hx1, ho1⟩
    have hml := hy1.len
    have hY8 := HY8.out
    clear hf hF1
    go_wp2_with fail
    go_loopw [6, 7] (fun u i wr => ∃ j : Nat, i = .int .i64 ((j : Int) - 1) ∧ j ≤ m1 ∧ u = .int .u64 ((leV (Y.drop j) : Nat) : Int) ∧ wr = w1) (fun _ i _ => (intOf i + 1).toNat)
    case atStart => exact ⟨m1, rfl, Nat.le_refl _, by rw [List.drop_of_length_le (by omega)]; rfl, rfl⟩
    case round =>
      obtain ⟨j, rfl, hj, rfl, rfl⟩ := hrel
      rcases Nat.eq_zero_or_pos j with h0 | h0
      · subst h0
        rw [List.drop_zero]
        clear hY8 hml
        go_wp2
        go_ret
        exact ⟨rfl, hx1, ho1⟩
      · obtain ⟨i, rfl⟩ : ∃ i, j = i + 1 := ⟨j - 1, by omega⟩
        obtain ⟨f, o, y, hA, hfB, hy, hc⟩ := hy1.at_ (k := i) (by omega)
        subst hA
        have hyv := y.toNat_lt
        have hlev : leV (Y.drop i) = y.toNat + 256 * leV (Y.drop (i + 1)) := by
          obtain ⟨h2, rfl⟩ := List.getElem?_eq_some_iff.1 hy
          rw [List.drop_eq_getElem_cons h2]; rfl
        have hlt := leV_lt (Y.drop i)
        have hpw : 256 ^ (Y.drop i).length ≤ 256 ^ 8 := Nat.pow_le_pow_right (by omega) (by rw [List.length_drop]; omega)
        rw [hlev] at hlt
        have h88 : (256 : Nat) ^ 8 = 18446744073709551616 := by decide
        rw [h88] at hpw
        have HL := Lib.hid hlev
        generalize leV (Y.drop (i + 1)) = V at *
        have e1 : ((i + 1 : Nat) : Int) - 1 = i := by omega
        rw [e1]
        have hb1 : (V : Int) * 256 ≤ 18446744073709551615 := by omega
        have hb2 : (V : Int) * 256 + y.toNat ≤ 18446744073709551615 := by omega
        have hii : i ≤ 8 := by omega
        clear hlt hpw h88 hlev hy hY8 hml e1
        go_wp2
        go_roundw
        case rel => exact ⟨i, by simp, by omega, by rw [HL.out]; congr 1; omega, by first | rfl | trivial⟩
        case measure => simp [intOf] <;> omega
set_option maxRecDepth 100000 in
set_option maxHeartbeats 4000000 in
theorem rbytes_any (g : Nat) (A : Option Addr) (n c B : Nat) (a e : Int) (xs : List UInt8) (w : World) (hx : Bxr w g A n c a e) (hg : g < w.heap.size) (hr : Rd w B A n xs) (hB : B ≤ g) (hnc : n ≤ c) (hn : n ≤ 1000000000) :
    Calls Try.prog 72 #[.pointer (some ⟨g, 0, none⟩)] w fun e' w' => ∃ A' l c', e' = .returned (.slice A' l c') ∧ l ≤ c' ∧ Rd w' w'.heap.size A' l (byY n xs a e) ∧ (0 < l → ∀ ad, A' = some ad → w.heap.size ≤ ad.block) ∧ Bxr w' g A n c (byT n xs a e) (byE n xs a e) ∧ Off g w.heap.size w w' := by
  have hl := hr.len
  have hc := rlong_any g A n c B a e xs w hx hg hr hB hnc hn
  unfold byT byY
  by_cases h1 : lnE 10 1 n xs a e = 0
  · obtain ⟨rfl, hs, ht⟩ := lnE_zero h1
    obtain ⟨_, ha1, ha2⟩ := stE_zero hs
    obtain ⟨t, hT, hTn, _⟩ := tk_at (by omega) (by omega) hl ha1 ha2 ht
    unfold lnN lnT at hc
    rw [h1, if_pos rfl, if_pos rfl, hT] at hc
    have hBE : byE n xs a 0 = if Vr.tkN 10 1 xs a < 0 then 11 else if 20000 < Vr.tkN 10 1 xs a then 15 else if (n : Int) - t < Vr.tkN 10 1 xs a then 10 else 0 := by unfold byE; rw [if_neg (by simp [h1]), hT]
    have hBL : byL xs a = (xs.drop t).take (Vr.tkN 10 1 xs a).toNat := by unfold byL; rw [hT, Int.toNat_natCast]
    rw [hBL, hT]
    have HT1 : -9223372036854775808 ≤ a := by omega
    generalize Vr.tkN 10 1 xs a = N at *
    generalize byE n xs a 0 = E at *
    have HC := Lib.hid hc
    clear h1 hs ht hT hc hBL
    by_cases h2 : N < 0
    · rw [if_pos h2] at hBE
      subst hBE
      rw [if_neg (by decide), if_neg (by decide)]
      obtain ⟨⟨r0, r1, r2⟩, k0, k1, k2⟩ := hx
      go_enter Try.func72, Try.ntmps72
      go_wp2_with fail
      refine HC.out.mono ?_
      rintro e' w1 ⟨rfl, hx1, ho1⟩
      clear r0 r1 r2 k0 k1 k2
      have hg1 := Nat.lt_of_lt_of_le hg ho1.size
      have hr1 := hr.off ho1 (by omega) hB
      obtain ⟨⟨r0, r1, r2⟩, k0, k1, k2⟩ := hx1
      go_wp2
      go_ret
      exact ⟨none, 0, 0, rfl, Nat.le_refl _, Rd.nil _ _ _, by omega, ⟨⟨by go_simp, by go_simp, by go_simp⟩, by go_simp, by go_simp, by go_simp⟩, by repeat' (first | with_reducible exact Off.refl _ _ _ | with_reducible assumption | with_reducible refine Off.drew ?_ | with_reducible refine Off.setAt ?_ _ _ | with_reducible refine Off.alloc ?_ (by simp <;> omega) _)⟩
    · rw [if_neg h2] at hBE
      by_cases h3 : 20000 < N
      · rw [if_pos h3] at hBE
        subst hBE
        rw [if_neg (by decide), if_neg (by decide)]
        obtain ⟨⟨r0, r1, r2⟩, k0, k1, k2⟩ := hx
        go_enter Try.func72, Try.ntmps72
        go_wp2_with fail
        refine HC.out.mono ?_
        rintro e' w1 ⟨rfl, hx1, ho1⟩
        clear r0 r1 r2 k0 k1 k2
        have hg1 := Nat.lt_of_lt_of_le hg ho1.size
        have hr1 := hr.off ho1 (by omega) hB
        obtain ⟨⟨r0, r1, r2⟩, k0, k1, k2⟩ := hx1
        go_wp2
        go_ret
        exact ⟨none, 0, 0, rfl, Nat.le_refl _, Rd.nil _ _ _, by omega, ⟨⟨by go_simp, by go_simp, by go_simp⟩, by go_simp, by go_simp, by go_simp⟩, by repeat' (first | with_reducible exact Off.refl _ _ _ | with_reducible assumption | with_reducible refine Off.drew ?_ | with_reducible refine Off.setAt ?_ _ _ | with_reducible refine Off.alloc ?_ (by simp <;> omega) _)⟩
      · rw [if_neg h3] at hBE
        have hf := fun w1 h1 h2 h3 => rfixed_any g A n c B t 0 N xs w1 h1 h2 h3 hB hnc hn
        have hs2 : stE n (t : Int) 0 = 0 := stE_in (by omega)
        have hNE : nxE n (t : Int) 0 N = if (n : Int) - t < N then 10 else 0 := by unfold nxE; rw [if_neg (by simp [hs2]), show max N 0 = N by omega]
        unfold fxT fxY at hf
        rw [hNE, show max N 0 = N by omega, Int.toNat_natCast] at hf
        clear hs2 hNE
        by_cases h4 : (n : Int) - t < N
        · rw [if_pos h4] at hf hBE
          subst hBE
          rw [if_neg (by decide), if_neg (by decide)] at hf ⊢
          have HF := Lib.hid hf
          clear hf h4
          obtain ⟨⟨r0, r1, r2⟩, k0, k1, k2⟩ := hx
          go_enter Try.func72, Try.ntmps72
          go_wp2_with fail
          refine HC.out.mono ?_
          rintro e' w1 ⟨rfl, hx1, ho1⟩
          clear r0 r1 r2 k0 k1 k2
          have hg1 := Nat.lt_of_lt_of_le hg ho1.size
          have hr1 := hr.off ho1 (by omega) hB
          obtain ⟨⟨r0, r1, r2⟩, k0, k1, k2⟩ := hx1
          go_wp2_with fail
          refine (HF.out w1 ⟨⟨r0, r1, r2⟩, k0, k1, k2⟩ hg1 hr1).mono ?_
          rintro e' w2 ⟨A2, m2, c2, rfl, hm2, hy2, hF2, hx2, ho2⟩
          have hF3 : 0 < m2 → ∀ ad, A2 = some ad → w.heap.size ≤ ad.block := fun h ad k => Nat.le_trans ho1.size (hF2 h ad k)
          have ho3 := ho1.trans (ho2.mono ho1.size)
          clear r0 r1 r2 k0 k1 k2 hF2 ho2
          obtain ⟨⟨r0, r1, r2⟩, k0, k1, k2⟩ := hx2
          go_wp2
          go_ret
          exact ⟨A2, m2, c2, rfl, hm2, Rd.more (hy2.setOther (fun h ad k => by have := hF3 h ad k; omega) _ _) (by simp), hF3, ⟨⟨by go_simp, by go_simp, by go_simp⟩, by go_simp, by go_simp, by go_simp⟩, by repeat' (first | with_reducible exact Off.refl _ _ _ | with_reducible assumption | with_reducible refine Off.drew ?_ | with_reducible refine Off.setAt ?_ _ _ | with_reducible refine Off.alloc ?_ (by simp <;> omega) _)⟩
        · rw [if_neg h4] at hf hBE
          subst hBE
          rw [if_pos rfl, if_pos rfl] at hf ⊢
          have HF := Lib.hid hf
          clear hf h4
          obtain ⟨⟨r0, r1, r2⟩, k0, k1, k2⟩ := hx
          go_enter Try.func72, Try.ntmps72
          go_wp2_with fail
          refine HC.out.mono ?_
          rintro e' w1 ⟨rfl, hx1, ho1⟩
          clear r0 r1 r2 k0 k1 k2
          have hg1 := Nat.lt_of_lt_of_le hg ho1.size
          have hr1 := hr.off ho1 (by omega) hB
          obtain ⟨⟨r0, r1, r2⟩, k0, k1, k2⟩ := hx1
          go_wp2_with fail
          refine (HF.out w1 ⟨⟨r0, r1, r2⟩, k0, k1, k2⟩ hg1 hr1).mono ?_
          rintro e' w2 ⟨A2, m2, c2, rfl, hm2, hy2, hF2, hx2, ho2⟩
          have hF3 : 0 < m2 → ∀ ad, A2 = some ad → w.heap.size ≤ ad.block := fun h ad k => Nat.le_trans ho1.size (hF2 h ad k)
          have ho3 := ho1.trans (ho2.mono ho1.size)
          clear r0 r1 r2 k0 k1 k2 hF2 ho2
          obtain ⟨⟨r0, r1, r2⟩, k0, k1, k2⟩ := hx2
          go_wp2
          go_ret
          exact ⟨A2, m2, c2, rfl, hm2, hy2, hF3, ⟨⟨by go_simp, by go_simp, by go_simp⟩, by go_simp, by go_simp, by go_simp⟩, by repeat' (first | with_reducible exact Off.refl _ _ _ | with_reducible assumption | with_reducible refine Off.drew ?_ | with_reducible refine Off.setAt ?_ _ _ | with_reducible refine Off.alloc ?_ (by simp <;> omega) _)⟩
  · have hE : byE n xs a e = lnE 10 1 n xs a e := by unfold byE; rw [if_pos h1]
    unfold lnN lnT at hc
    rw [if_neg h1, if_neg h1] at hc
    rw [hE, if_neg h1, if_neg h1]
    generalize lnE 10 1 n xs a e = E at *
    have h6 : (E != 0) = true := by simp [h1]
    have h7 : (E == 0) = false := by simp [h1]
    have HC := Lib.hid hc
    clear hE hc
    obtain ⟨⟨r0, r1, r2⟩, k0, k1, k2⟩ := hx
    go_enter Try.func72, Try.ntmps72
    go_wp2_with fail
    refine HC.out.mono ?_
    rintro e' w1 ⟨rfl, hx1, ho1⟩
    clear r0 r1 r2 k0 k1 k2
    have hg1 := Nat.lt_of_lt_of_le hg ho1.size
    have hr1 := hr.off ho1 (by omega) hB
    obtain ⟨⟨r0, r1, r2⟩, k0, k1, k2⟩ := hx1
    go_wp2
    go_ret
    exact ⟨none, 0, 0, rfl, Nat.le_refl _, Rd.nil _ _ _, by omega, ⟨⟨by go_simp, by go_simp, by go_simp⟩, by go_simp, by go_simp, by go_simp⟩, by repeat' (first | with_reducible exact Off.refl _ _ _ | with_reducible assumption | with_reducible refine Off.drew ?_ | with_reducible refine Off.setAt ?_ _ _ | with_reducible refine Off.alloc ?_ (by simp <;> omega) _)⟩
set_option maxRecDepth 100000 in
set_option maxHeartbeats 4000000 in
theorem rtext_any (g : Nat) (A : Option Addr) (n c B : Nat) (a e : Int) (xs : List UInt8) (w : World) (hx : Bxr w g A n c a e) (hg : g < w.heap.size) (hr : Rd w B A n xs) (hB : B ≤ g) (hnc : n ≤ c) (hn : n ≤ 1000000) :
    Calls Try.prog 73 #[.pointer (some ⟨g, 0, none⟩)] w fun e' w' => ∃ A' l c', e' = .returned (.slice A' l c') ∧ l ≤ c' ∧ Rd w' w'.heap.size A' l (txY n xs a e) ∧ (0 < l → ∀ ad, A' = some ad → w.heap.size ≤ ad.block) ∧ Bxr w' g A n c (txT n xs a e) (txE n xs a e) ∧ Off g w.heap.size w w' := by
  have hl := hr.len
  have hc := rbytes_any g A n c B a e xs w hx hg hr hB hnc (by omega)
  unfold txT txY
  unfold byT byY at hc
  by_cases h1 : byE n xs a e = 0
  · rw [h1, if_pos rfl, if_pos rfl] at hc
    have hYn : (byL xs a).length ≤ n := by unfold byL; rw [List.length_take, List.length_drop]; omega
    have hE : txE n xs a e = if (Ut.ucount (byL xs a)).isSome = true then 0 else 11 := by unfold txE; rw [if_neg (by simp [h1])]
    generalize byL xs a = Y at *
    generalize Vr.tkTo 10 1 xs a + Vr.tkN 10 1 xs a = T at *
    have HC := Lib.hid hc
    clear hc h1
    by_cases h2 : (Ut.ucount Y).isSome = true
    · rw [if_pos h2] at hE
      rw [hE, if_pos rfl, if_pos rfl]
      obtain ⟨K, hK⟩ := Option.isSome_iff_exists.1 h2
      have hR : Ut.ucR Y = (K : Int) := by unfold Ut.ucR; rw [hK]
      have HR := Lib.hid hR
      have hk0 : ¬ (K : Int) < 0 := by omega
      clear hE hR h2 hK
      obtain ⟨⟨r0, r1, r2⟩, k0, k1, k2⟩ := hx
      go_enter Try.func73, Try.ntmps73
      go_wp2_with fail
      refine HC.out.mono ?_
      rintro e' w1 ⟨A1, m1, c1, rfl, hm1, hy1, hF1, hx1, ho1⟩
      clear r0 r1 r2 k0 k1 k2
      have hg1 := Nat.lt_of_lt_of_le hg ho1.size
      have hm0 := hy1.len
      obtain ⟨⟨r0, r1, r2⟩, k0, k1, k2⟩ := hx1
      go_wp2_with fail
      refine (Ut.refcount_any A1 m1 c1 w1.heap.size Y w1 hy1 (Nat.le_refl _) hm1 (by omega)).mono ?_
      rintro e' w2 ⟨rfl, hb2⟩
      have hy2 := (hy1.below' hb2 (Nat.le_refl _)).more hb2.size
      have hx2 := Bxr.below ⟨⟨r0, r1, r2⟩, k0, k1, k2⟩ hb2 hg1
      have ho2 := ho1.trans ((Off.of hb2 (g := g)).mono ho1.size)
      clear r0 r1 r2 k0 k1 k2 hb2 ho1
      obtain ⟨⟨r0, r1, r2⟩, k0, k1, k2⟩ := hx2
      rw [HR.out]
      go_wp2
      go_ret
      exact ⟨A1, m1, c1, rfl, hm1, hy2, hF1, ⟨⟨by go_simp, by go_simp, by go_simp⟩, by go_simp, by go_simp, by go_simp⟩, by repeat' (first | with_reducible exact Off.refl _ _ _ | with_reducible assumption | with_reducible refine Off.drew ?_ | with_reducible refine Off.setAt ?_ _ _ | with_reducible refine Off.alloc ?_ (by simp <;> omega) _)⟩
    · rw [if_neg h2] at hE
      rw [hE, if_neg (by omega), if_neg (by omega)]
      have hK : Ut.ucount Y = none := by simpa using h2
      have hR : Ut.ucR Y = -1 := by unfold Ut.ucR; rw [hK]
      have HR := Lib.hid hR
      clear hE hR h2 hK
      obtain ⟨⟨r0, r1, r2⟩, k0, k1, k2⟩ := hx
      go_enter Try.func73, Try.ntmps73
      go_wp2_with fail
      refine HC.out.mono ?_
      rintro e' w1 ⟨A1, m1, c1, rfl, hm1, hy1, hF1, hx1, ho1⟩
      clear r0 r1 r2 k0 k1 k2
      have hg1 := Nat.lt_of_lt_of_le hg ho1.size
      have hm0 := hy1.len
      obtain ⟨⟨r0, r1, r2⟩, k0, k1, k2⟩ := hx1
      go_wp2_with fail
      refine (Ut.refcount_any A1 m1 c1 w1.heap.size Y w1 hy1 (Nat.le_refl _) hm1 (by omega)).mono ?_
      rintro e' w2 ⟨rfl, hb2⟩
      have hy2 := (hy1.below' hb2 (Nat.le_refl _)).more hb2.size
      have hx2 := Bxr.below ⟨⟨r0, r1, r2⟩, k0, k1, k2⟩ hb2 hg1
      have ho2 := ho1.trans ((Off.of hb2 (g := g)).mono ho1.size)
      clear r0 r1 r2 k0 k1 k2 hb2 ho1
      obtain ⟨⟨r0, r1, r2⟩, k0, k1, k2⟩ := hx2
      rw [HR.out]
      go_wp2
      go_ret
      exact ⟨none, 0, 0, rfl, Nat.le_refl _, Rd.nil _ _ _, by omega, ⟨⟨by go_simp, by go_simp, by go_simp⟩, by go_simp, by go_simp, by go_simp⟩, by repeat' (first | with_reducible exact Off.refl _ _ _ | with_reducible assumption | with_reducible refine Off.drew ?_ | with_reducible refine Off.setAt ?_ _ _ | with_reducible refine Off.alloc ?_ (by simp <;> omega) _)⟩
  · have hE : txE n xs a e = byE n xs a e := by unfold txE; rw [if_pos h1]
    rw [if_neg h1, if_neg h1] at hc
    rw [hE, if_neg h1, if_neg h1]
    generalize byE n xs a e = E at *
    have h7 : (E == 0) = false := by simp [h1]
    have HC := Lib.hid hc
    clear hE hc
    obtain ⟨⟨r0, r1, r2⟩, k0, k1, k2⟩ := hx
    go_enter Try.func73, Try.ntmps73
    go_wp2_with fail
    refine HC.out.mono ?_
    rintro e' w1 ⟨A1, m1, c1, rfl, hm1, hy1, hF1, hx1, ho1⟩
    clear r0 r1 r2 k0 k1 k2
    have hg1 := Nat.lt_of_lt_of_le hg ho1.size
    have hm0 := hy1.len
    obtain ⟨⟨r0, r1, r2⟩, k0, k1, k2⟩ := hx1
    go_wp2
    go_ret
    exact ⟨A1, m1, c1, rfl, hm1, hy1, hF1, ⟨⟨by go_simp, by go_simp, by go_simp⟩, by go_simp, by go_simp, by go_simp⟩, ho1⟩
end Go.Proofs.Ytodgnlhakafhoaa.Wr
