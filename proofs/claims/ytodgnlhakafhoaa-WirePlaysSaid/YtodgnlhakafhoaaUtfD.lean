/- The layer utf: the document's Take, and Count on both sides. -/
import Derived.Test.YtodgnlhakafhoaaUtfC
namespace Go.Proofs.Ytodgnlhakafhoaa.Ut
open Go.ChangeShapes Go.WideShapes Go.ChangeAt Go.RowKit
open Num Mem Can

set_option maxRecDepth 100000 in
theorem reftake_any (A : Option Addr) (n c B : Nat) (p : Int) (xs : List UInt8) (w : World) (hr : Rd w B A n xs) (hB : B ≤ w.heap.size) (hnc : n ≤ c) (hn : n ≤ 1000000) (hp1 : -9223372036854775808 ≤ p) (hp2 : p ≤ 9223372036854775807) :
    Calls Try.prog 30 #[.slice A n c, .int .i64 p] w fun e w' => e = .returned (.tuple #[.int .i64 (uN xs p), .int .i64 (uTo xs p), .int .i64 (uE xs p)]) ∧ Below w.heap.size w w' := by
  have hl := hr.len
  by_cases hin : p < 0 ∨ (xs.length : Int) < p
  · rw [uN_out hin, uTo_out hin, uE_out hin]
    rw [hl] at hin
    clear hr hl
    rcases (show p < 0 ∨ (0 ≤ p ∧ (n : Int) < p) by omega) with h | ⟨h, h'⟩
    · go_enter Try.func30, Try.ntmps30
      go_wp2
      go_ret3
      exact ⟨rfl, Below.refl _ _⟩
    · go_enter Try.func30, Try.ntmps30
      go_wp2
      go_ret3
      exact ⟨rfl, Below.refl _ _⟩
  · obtain ⟨q, rfl⟩ := Int.eq_ofNat_of_zero_le (show 0 ≤ p by omega)
    have hq : q ≤ n := by omega
    have hqi : (q : Int) ≤ n := by omega
    rw [uN_in (by omega), uTo_in (by omega), uE_in (by omega)]
    by_cases hok : (utk (xs.drop q)).2.2 = 0
    · obtain ⟨h1, h2, h3, h4⟩ := utk_ok hok
      have hv : uV (xs.drop q) = (utk (xs.drop q)).1 := by unfold uV; rw [if_pos hok]
      rw [hok, h4]
      generalize (utk (xs.drop q)).1 = D at h1 h2 h3 h4 hv ⊢
      have HV := Lib.hid hv
      have hge : (0 : Int) ≤ (D : Int) := by omega
      have hul := uput_len D
      clear hv hok h1 h3 h4 hin
      go_enter Try.func30, Try.ntmps30
      go_wp2_with (with_reducible refine wpl_cut rfl rfl rfl hr hq hnc ?_; intro A1 hr1)
      refine (whole_any A1 (n - q) (c - q) B (xs.drop q) _ hr1 hB (by omega) (by omega)).mono ?_
      rintro e w2 ⟨rfl, hb2⟩
      rw [HV.out]
      go_wp2_with fail
      refine (refput_any D h2 w2.heap.size _ (Nat.le_refl _)).mono ?_
      rintro e w3 ⟨A3, n3, c3, rfl, hn3, ho3, hb3⟩
      have hb23 := hb2.thn (Nat.le_refl _) hb3
      have HN3 := Lib.hid hn3
      have hn3l : n3 ≤ 4 := by omega
      clear hn3
      go_wp2_with fail
      go_ret3
      exact ⟨by rw [HN3.out]; rfl, hb23⟩
    · have hv : uV (xs.drop q) = -1 := by unfold uV; rw [if_neg hok]
      have HV := Lib.hid hv
      clear hv
      rcases utk_err hok with hu | hu
      · rw [hu]
        obtain ⟨h4, hbeg⟩ := ubegun_short hu
        rw [List.length_drop, hl] at h4
        have h4i : (n : Int) - q < 4 := by omega
        have HBEG := Lib.hid hbeg
        clear hok hu hbeg h4 hin
        go_enter Try.func30, Try.ntmps30
        go_wp2_with (with_reducible refine wpl_cut rfl rfl rfl hr hq hnc ?_; intro A1 hr1)
        refine (whole_any A1 (n - q) (c - q) B (xs.drop q) _ hr1 hB (by omega) (by omega)).mono ?_
        rintro e w2 ⟨rfl, hb2⟩
        rw [HV.out]
        have hr2 := hr.below' hb2 hB
        go_wp2_with (with_reducible refine wpl_cut rfl rfl rfl hr2 hq hnc ?_; intro A2 hr3)
        refine (begun_all A2 (n - q) (c - q) B (xs.drop q) _ hr3 (Nat.le_trans hB hb2.size) (by omega) (by omega)).mono ?_
        rintro e w3 ⟨rfl, hb3⟩
        have hb23 := hb2.thn (Nat.le_refl _) hb3
        rw [HBEG.out]
        go_wp2_with fail
        go_ret3
        exact ⟨by simp, hb23⟩
      · rw [hu]
        have hbeg := ubegun_bad hu
        have HBEG := Lib.hid hbeg
        clear hok hu hbeg hin
        by_cases h4i : (n : Int) - q < 4
        · go_enter Try.func30, Try.ntmps30
          go_wp2_with (with_reducible refine wpl_cut rfl rfl rfl hr hq hnc ?_; intro A1 hr1)
          refine (whole_any A1 (n - q) (c - q) B (xs.drop q) _ hr1 hB (by omega) (by omega)).mono ?_
          rintro e w2 ⟨rfl, hb2⟩
          rw [HV.out]
          have hr2 := hr.below' hb2 hB
          go_wp2_with (with_reducible refine wpl_cut rfl rfl rfl hr2 hq hnc ?_; intro A2 hr3)
          refine (begun_all A2 (n - q) (c - q) B (xs.drop q) _ hr3 (Nat.le_trans hB hb2.size) (by omega) (by omega)).mono ?_
          rintro e w3 ⟨rfl, hb3⟩
          have hb23 := hb2.thn (Nat.le_refl _) hb3
          rw [HBEG.out]
          go_wp2_with fail
          go_ret3
          exact ⟨by simp, hb23⟩
        · go_enter Try.func30, Try.ntmps30
          go_wp2_with (with_reducible refine wpl_cut rfl rfl rfl hr hq hnc ?_; intro A1 hr1)
          refine (whole_any A1 (n - q) (c - q) B (xs.drop q) _ hr1 hB (by omega) (by omega)).mono ?_
          rintro e w2 ⟨rfl, hb2⟩
          rw [HV.out]
          go_wp2_with fail
          go_ret3
          exact ⟨by simp, hb2⟩

/-! ### how many characters -/
def ucn : Nat → List UInt8 → Option Nat
  | _, [] => some 0
  | 0, _ :: _ => none
  | f + 1, a :: r => if (utk (a :: r)).2.2 = 0 then (ucn f ((a :: r).drop (utk (a :: r)).2.1)).map (· + 1) else none
def ucount (L : List UInt8) : Option Nat := ucn L.length L

theorem utk_pos {L : List UInt8} (h : (utk L).2.2 = 0) : 1 ≤ (utk L).2.1 ∧ (utk L).2.1 ≤ L.length := by
  obtain ⟨_, h2, _, h4⟩ := ok_utest h
  exact ⟨h2, h4⟩
theorem ucn_fuel : ∀ (f f' : Nat) (L : List UInt8), L.length ≤ f → L.length ≤ f' → ucn f L = ucn f' L
  | f, f', [], _, _ => by cases f <;> cases f' <;> rfl
  | 0, _, _ :: _, h, _ => by simp at h
  | _ + 1, 0, _ :: _, _, h => by simp at h
  | f + 1, f' + 1, a :: r, h, h' => by
    unfold ucn
    by_cases h0 : (utk (a :: r)).2.2 = 0
    · rw [if_pos h0, if_pos h0]
      have hp := utk_pos h0
      have hlen : ((a :: r).drop (utk (a :: r)).2.1).length ≤ r.length := by rw [List.length_drop]; simp; omega
      simp at h h'
      rw [ucn_fuel f f' _ (by omega) (by omega)]
    · rw [if_neg h0, if_neg h0]
theorem ucount_nil : ucount [] = some 0 := rfl
theorem ucount_ok {L : List UInt8} (h : (utk L).2.2 = 0) : ucount L = (ucount (L.drop (utk L).2.1)).map (· + 1) := by
  have hp := utk_pos h
  cases L with
  | nil => cases h
  | cons a r =>
    have e : ucount (a :: r) = ucn (r.length + 1) (a :: r) := rfl
    rw [e, ucn, if_pos h]
    congr 1
    refine ucn_fuel _ _ _ ?_ (Nat.le_refl _)
    rw [List.length_drop]; simp; omega
theorem ucount_bad {L : List UInt8} (h0 : L ≠ []) (h : (utk L).2.2 ≠ 0) : ucount L = none := by
  cases L with
  | nil => exact absurd rfl h0
  | cons a r =>
    have e : ucount (a :: r) = ucn (r.length + 1) (a :: r) := rfl
    rw [e, ucn, if_neg h]

def ucM (L : List UInt8) : Nat := (ucount L).getD 0
def ucE (L : List UInt8) : Nat := if (ucount L).isSome then 0 else 11
def ucR (L : List UInt8) : Int := match ucount L with
  | some m => m
  | none => -1

/-- so far: m characters in q bytes -/
def UcAt (xs : List UInt8) (q m : Nat) : Prop := m ≤ q ∧ ucount xs = (ucount (xs.drop q)).map (· + m)
theorem UcAt.zero (xs : List UInt8) : UcAt xs 0 0 := ⟨Nat.le_refl _, by rw [List.drop_zero]; cases ucount xs <;> rfl⟩
theorem UcAt.next {xs : List UInt8} {q m : Nat} (h : UcAt xs q m) (h0 : (utk (xs.drop q)).2.2 = 0) : UcAt xs (q + (utk (xs.drop q)).2.1) (m + 1) := by
  have hp := utk_pos h0
  refine ⟨by have := h.1; omega, ?_⟩
  rw [h.2, ucount_ok h0, List.drop_drop, Option.map_map]
  congr 1
  funext z
  simp
  omega
theorem UcAt.done {xs : List UInt8} {q m : Nat} (h : UcAt xs q m) (h0 : xs.length ≤ q) : ucount xs = some m := by
  rw [h.2, List.drop_eq_nil_of_le h0, ucount_nil]; simp
theorem UcAt.bad {xs : List UInt8} {q m : Nat} (h : UcAt xs q m) (h0 : q < xs.length) (h1 : (utk (xs.drop q)).2.2 ≠ 0) : ucount xs = none := by
  rw [h.2, ucount_bad (by intro e; have := congrArg List.length e; rw [List.length_drop] at this; simp at this; omega) h1]; rfl

set_option maxRecDepth 100000 in
theorem count_any (A : Option Addr) (n c B : Nat) (xs : List UInt8) (w : World) (hr : Rd w B A n xs) (hn : n ≤ 1000000000) :
    Calls Try.prog 31 #[.slice A n c] w fun e w' => e = .returned (.tuple #[.int .i64 (ucM xs), .int .i64 (ucE xs)]) ∧ w = w' := by
  have hl := hr.len
  obtain ⟨M, hM⟩ : ∃ M, M = ucM xs := ⟨_, rfl⟩
  obtain ⟨E, hE⟩ : ∃ E, E = ucE xs := ⟨_, rfl⟩
  rw [← hM, ← hE]
  have HM := Lib.hid hM
  have HE := Lib.hid hE
  clear hM hE
  go_enter Try.func31, Try.ntmps31
  go_wp2_with fail
  go_loop [4, 5] (fun m q => ∃ m' q' : Nat, m = .int .i64 m' ∧ q = .int .i64 q' ∧ q' ≤ n ∧ UcAt xs q' m') (fun _ q => n - (intOf q).toNat)
  case atStart => exact ⟨0, 0, rfl, rfl, by omega, UcAt.zero xs⟩
  case round =>
    obtain ⟨m, q, rfl, rfl, hq, hu⟩ := hrel
    have hmq := hu.1
    by_cases hqn : q = n
    · have hd := hu.done (by omega)
      have e1 : M = m := by rw [HM.out]; unfold ucM; rw [hd]; rfl
      have e2 : E = 0 := by rw [HE.out]; unfold ucE; rw [hd]; rfl
      subst e1 e2 hqn
      clear hu hd
      go_wp2_with fail
      go_ret2
      exact ⟨rfl, rfl⟩
    · have hlt : (q : Int) < n := by omega
      by_cases h0 : (utk (xs.drop q)).2.2 = 0
      · have hx := hu.next h0
        have hp := utk_pos h0
        rw [List.length_drop, hl] at hp
        have H0 := Lib.hid h0
        have HX := Lib.hid hx
        clear h0 hx hu
        go_wp2_with fail
        refine (take_in A n c B q xs w hr hq hn).mono ?_
        rintro e w' ⟨rfl, rfl⟩
        rw [H0.out]
        go_wp2_with fail
        go_round
        case rel => exact ⟨m + 1, q + (utk (xs.drop q)).2.1, by simp, by simp, by omega, HX.out⟩
        case measure => simp [intOf]; omega
      · have hb := hu.bad (by omega) h0
        have e1 : M = 0 := by rw [HM.out]; unfold ucM; rw [hb]; rfl
        have e2 : E = 11 := by rw [HE.out]; unfold ucE; rw [hb]; rfl
        subst e1 e2
        have hne : (((utk (xs.drop q)).2.2 : Int) != 0) = true := by simp; exact h0
        clear hu hb h0
        go_wp2_with fail
        refine (take_in A n c B q xs w hr hq hn).mono ?_
        rintro e w' ⟨rfl, rfl⟩
        go_wp2_with fail
        go_ret2
        exact ⟨rfl, rfl⟩

theorem right_any (A : Option Addr) (n c B : Nat) (xs : List UInt8) (w : World) (hr : Rd w B A n xs) (hn : n ≤ 1000000000) :
    Calls Try.prog 33 #[.slice A n c] w fun e w' => e = .returned (.bool (ucount xs).isSome) ∧ w = w' := by
  have he : ((ucE xs : Int) == 0) = (ucount xs).isSome := by unfold ucE; cases ucount xs <;> rfl
  have HE := Lib.hid he
  clear he
  go_enter Try.func33, Try.ntmps33
  go_wp2_with fail
  refine (count_any A n c B xs w hr hn).mono ?_
  rintro e w' ⟨rfl, rfl⟩
  go_wp2_with fail
  go_ret
  exact ⟨by rw [← HE.out]; rfl, rfl⟩

set_option maxRecDepth 100000 in
theorem refcount_any (A : Option Addr) (n c B : Nat) (xs : List UInt8) (w : World) (hr : Rd w B A n xs) (hB : B ≤ w.heap.size) (hnc : n ≤ c) (hn : n ≤ 1000000) :
    Calls Try.prog 32 #[.slice A n c] w fun e w' => e = .returned (.int .i64 (ucR xs)) ∧ Below w.heap.size w w' := by
  have hl := hr.len
  obtain ⟨M, hM⟩ : ∃ M, M = ucR xs := ⟨_, rfl⟩
  rw [← hM]
  have HM := Lib.hid hM
  clear hM
  go_enter Try.func32, Try.ntmps32
  go_wp2_with fail
  go_loopw [3, 4] (fun m q wr => ∃ m' q' : Nat, m = .int .i64 m' ∧ q = .int .i64 q' ∧ q' ≤ n ∧ UcAt xs q' m' ∧ Below w.heap.size w wr) (fun _ q _ => n - (intOf q).toNat)
  case atStart => exact ⟨0, 0, rfl, rfl, by omega, UcAt.zero xs, Below.refl _ _⟩
  case round =>
    obtain ⟨m, q, rfl, rfl, hq, hu, hbw⟩ := hrel
    have hmq := hu.1
    have hrw := hr.below' hbw hB
    by_cases hqn : q = n
    · have hd := hu.done (by omega)
      have e1 : M = m := by rw [HM.out]; unfold ucR; rw [hd]
      subst e1 hqn
      clear hu hd
      go_wp2_with fail
      go_ret
      exact ⟨rfl, hbw⟩
    · have hlt : (q : Int) < n := by omega
      have e1 : uN xs (q : Int) = (utk (xs.drop q)).1 := uN_in (by omega)
      have e2 : uTo xs (q : Int) = q + (utk (xs.drop q)).2.1 := uTo_in (by omega)
      have e3 : uE xs (q : Int) = (utk (xs.drop q)).2.2 := uE_in (by omega)
      have E1 := Lib.hid e1
      have E2 := Lib.hid e2
      have E3 := Lib.hid e3
      clear e1 e2 e3
      by_cases h0 : (utk (xs.drop q)).2.2 = 0
      · have hx := hu.next h0
        have hp := utk_pos h0
        rw [List.length_drop, hl] at hp
        have H0 := Lib.hid h0
        have HX := Lib.hid hx
        clear h0 hx hu
        go_wp2_with fail
        refine (reftake_any A n c B q xs wr hrw (Nat.le_trans hB hbw.size) hnc hn (by omega) (by omega)).mono ?_
        rintro e w' ⟨rfl, hb'⟩
        have hbw' := hbw.thn (Nat.le_refl _) hb'
        rw [E1.out, E2.out, E3.out, H0.out]
        go_wp2_with fail
        go_roundw
        case rel => exact ⟨m + 1, q + (utk (xs.drop q)).2.1, by simp, by simp, by omega, HX.out, hbw'⟩
        case measure => simp [intOf]; omega
      · have hb := hu.bad (by omega) h0
        have e1 : M = -1 := by rw [HM.out]; unfold ucR; rw [hb]
        subst e1
        have hne : (((utk (xs.drop q)).2.2 : Int) != 0) = true := by simp; exact h0
        clear hu hb h0
        go_wp2_with fail
        refine (reftake_any A n c B q xs wr hrw (Nat.le_trans hB hbw.size) hnc hn (by omega) (by omega)).mono ?_
        rintro e w' ⟨rfl, hb'⟩
        have hbw' := hbw.thn (Nat.le_refl _) hb'
        rw [E1.out, E2.out, E3.out]
        go_wp2_with fail
        go_ret
        exact ⟨rfl, hbw'⟩
end Go.Proofs.Ytodgnlhakafhoaa.Ut
