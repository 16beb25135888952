/- The layer utf: the document's begun, walked. -/
import Derived.Test.YtodgnlhakafhoaaUtfB
namespace Go.Proofs.Ytodgnlhakafhoaa.Ut
open Go.ChangeShapes Go.WideShapes Go.ChangeAt Go.RowKit
open Num Mem Can

theorem ufw_size (w : World) : (((((((w.alloc (.cells #[.int .u8 128, .int .u8 128, .int .u8 128] 5)).alloc (.cells #[.int .u8 191, .int .u8 191, .int .u8 191] 5)).alloc (.cells #[.int .u8 160, .int .u8 128, .int .u8 128] 5)).alloc (.cells #[.int .u8 144, .int .u8 128, .int .u8 128] 5)).alloc (.cells #[.int .u8 143, .int .u8 191, .int .u8 191] 5)).alloc (.cells #[.int .u8 159, .int .u8 191, .int .u8 191] 5)).alloc (.cells #[.slice (some ⟨w.heap.size, 0, none⟩) 3 3, .slice (some ⟨w.heap.size + 1, 0, none⟩) 3 3, .slice (some ⟨w.heap.size + 1 + 1, 0, none⟩) 3 3, .slice (some ⟨w.heap.size + 1 + 1 + 1, 0, none⟩) 3 3, .slice (some ⟨w.heap.size + 1 + 1 + 1 + 1, 0, none⟩) 3 3, .slice (some ⟨w.heap.size + 1 + 1 + 1 + 1 + 1, 0, none⟩) 3 3] 22)).heap.size = w.heap.size + 7 := by simp
theorem ufw_below (w : World) : Below w.heap.size w (((((((w.alloc (.cells #[.int .u8 128, .int .u8 128, .int .u8 128] 5)).alloc (.cells #[.int .u8 191, .int .u8 191, .int .u8 191] 5)).alloc (.cells #[.int .u8 160, .int .u8 128, .int .u8 128] 5)).alloc (.cells #[.int .u8 144, .int .u8 128, .int .u8 128] 5)).alloc (.cells #[.int .u8 143, .int .u8 191, .int .u8 191] 5)).alloc (.cells #[.int .u8 159, .int .u8 191, .int .u8 191] 5)).alloc (.cells #[.slice (some ⟨w.heap.size, 0, none⟩) 3 3, .slice (some ⟨w.heap.size + 1, 0, none⟩) 3 3, .slice (some ⟨w.heap.size + 1 + 1, 0, none⟩) 3 3, .slice (some ⟨w.heap.size + 1 + 1 + 1, 0, none⟩) 3 3, .slice (some ⟨w.heap.size + 1 + 1 + 1 + 1, 0, none⟩) 3 3, .slice (some ⟨w.heap.size + 1 + 1 + 1 + 1 + 1, 0, none⟩) 3 3] 22)) := by
  refine ⟨rfl, rfl, rfl, by simp; omega, fun k hk => ?_⟩
  exact ((((((((Below.refl w.heap.size w).al (by omega) _).al (by omega) _).al (by omega) _).al (by omega) _).al (by omega) _).al (by omega) _).al (by omega) _).block k hk

set_option maxRecDepth 100000 in
set_option maxHeartbeats 4000000 in
theorem begun_any (A : Option Addr) (n c B : Nat) (xs : List UInt8) (w : World) (hr : Rd w B A n xs) (hB : B ≤ w.heap.size) (_hnc : n ≤ c) (hn : n ≤ 1000000) (hx : n ≠ 0) :
    Calls Try.prog 65 #[.slice A n c] w fun e w' => e = .returned (.bool (ufills.any (ubegs xs))) ∧ Below w.heap.size w w' := by
  have hl := hr.len
  have hn0 : ((n : Int) == 0) = false := by simp; omega
  obtain ⟨R, hR⟩ : ∃ R, R = ufills.any (ubegs xs) := ⟨_, rfl⟩
  rw [← hR]
  have HR := Lib.hid hR
  obtain ⟨w7, hw7⟩ : ∃ w7, w7 = (((((((w.alloc (.cells #[.int .u8 128, .int .u8 128, .int .u8 128] 5)).alloc (.cells #[.int .u8 191, .int .u8 191, .int .u8 191] 5)).alloc (.cells #[.int .u8 160, .int .u8 128, .int .u8 128] 5)).alloc (.cells #[.int .u8 144, .int .u8 128, .int .u8 128] 5)).alloc (.cells #[.int .u8 143, .int .u8 191, .int .u8 191] 5)).alloc (.cells #[.int .u8 159, .int .u8 191, .int .u8 191] 5)).alloc (.cells #[.slice (some ⟨w.heap.size, 0, none⟩) 3 3, .slice (some ⟨w.heap.size + 1, 0, none⟩) 3 3, .slice (some ⟨w.heap.size + 1 + 1, 0, none⟩) 3 3, .slice (some ⟨w.heap.size + 1 + 1 + 1, 0, none⟩) 3 3, .slice (some ⟨w.heap.size + 1 + 1 + 1 + 1, 0, none⟩) 3 3, .slice (some ⟨w.heap.size + 1 + 1 + 1 + 1 + 1, 0, none⟩) 3 3] 22)) := ⟨_, rfl⟩
  have hspec := ufw_spec w
  have hsize := ufw_size w
  have hb7 := ufw_below w
  rw [← hw7] at hspec hsize hb7
  have HW7 := Lib.hid hw7
  have HSPEC := Lib.hid hspec
  have HSIZE := Lib.hid hsize
  clear hR hw7 hspec hsize
  go_enter Try.func65, Try.ntmps65
  go_wp2_with fail
  rw [← HW7.out]
  go_loopw [4] (fun i wr => ∃ k : Nat, i = .int .i64 k ∧ k ≤ 6 ∧ (∀ j f, j < k → ufills[j]? = some f → ubegs xs f = false) ∧ Below (w.heap.size + 7) w7 wr) (fun i _ => 6 - (intOf i).toNat)
  case atStart => exact ⟨0, rfl, by omega, fun j f hj _ => by omega, Below.refl _ _⟩
  case round =>
    obtain ⟨k, rfl, hk, hno, hbw⟩ := hrel
    have HNO := Lib.hid hno
    clear hno
    have hs7 : w.heap.size + 7 ≤ w7.heap.size := by rw [HSIZE.out]; omega
    have hsr : w.heap.size + 7 ≤ wr.heap.size := Nat.le_trans hs7 hbw.size
    have hbz : Below w.heap.size w wr := hb7.trans (hbw.mono (by omega))
    by_cases hend : k = 6
    · subst hend
      have hRf : R = false := by
        rw [HR.out, List.any_eq_false]
        intro f hf
        obtain ⟨j, hj, rfl⟩ := List.getElem_of_mem hf
        rw [HNO.out j _ (by simpa [ufills] using hj) (List.getElem?_eq_getElem hj)]; simp
      subst hRf
      go_wp2_with fail
      go_ret
      exact ⟨rfl, hbz⟩
    · have hk6 : k < 6 := by omega
      have hk6i : (k : Int) < 6 := by omega
      obtain ⟨f, hf⟩ : ∃ f, ufills[k]? = some f := ⟨ufills[k]'(by simpa [ufills] using hk6), List.getElem?_eq_getElem _⟩
      obtain ⟨hf3, g, hcell, hrf⟩ := HSPEC.out k f hf
      have HF := Lib.hid hf
      have hcell2 := (hbw.cell (p := ⟨w.heap.size + 1 + 1 + 1 + 1 + 1 + 1, k, none⟩) (by simp)).trans hcell
      have hrf2 := hrf.below hbw
      have hr2 := hr.below' hbz hB
      clear hcell hrf hf
      go_wp2_with fail
      refine region_can [1, 3, 4, 5, 6, 0, 2, 7, 8] [0, 2, 7] (by kernel_rfl) (by kernel_rfl) (by simp) (by kernel_rfl) (fun _ _ d _ _ h => by cases d <;> exact h) (fun wd hd hds => ?_)
      have Hds := Lib.hid hds
      clear hds
      have hcell3 := (hd.cell (p := ⟨w.heap.size + 1 + 1 + 1 + 1 + 1 + 1, k, none⟩) (by simp; omega)).trans hcell2
      have hrf3 := hrf2.below' hd hsr
      have hr3 := hr2.below' hd (by omega)
      have HC3 := Lib.hid hcell3
      clear hcell2 hcell3
      repeat ((first | (refine can_pure (v := ?_) rfl rfl rfl ?_ ?_; rotate_left; · (intro w'; go_simp; try with_reducible rfl)) | (refine can_skip rfl rfl rfl ?_)); simp only [Act.put, List.setIfInBounds_toArray, List.set_cons_zero, List.set_cons_succ])
      refine can_read rfl rfl rfl (w.heap.size + 7) (by omega) (.slice (some ⟨g, 0, none⟩) 3 3) (fun w' hb => by have hc4 := (hb.cell (p := ⟨w.heap.size + 1 + 1 + 1 + 1 + 1 + 1, k, none⟩) (by simp)).trans HC3.out; go_simp) ?_
      simp only [Act.put, List.setIfInBounds_toArray, List.set_cons_zero, List.set_cons_succ]
      refine can_make rfl rfl wr.heap.size hsr (fun Q1 hQ1 => ?_)
      go_wp2_with fail
      refine hQ1 _ _ ((Below.refl _ _).alloc hd.size _) ?_
      refine can_make rfl rfl wr.heap.size (Nat.le_refl _) (fun Q1 hQ1 => ?_)
      go_wp2_with (at_builtin; refine wpl_app rfl rfl (Own.lit wd wr.heap.size [] hd.size (by simp)) rfl (hr3.alloc (Nat.le_trans hB (Nat.le_trans hbz.size hd.size)) _) (by omega) (by have := hd.size; simp; omega) ?_; intro A2 c2 w2 ho2 hb2; simp only [List.nil_append] at ho2)
      have hd2 := (hd.al (Nat.le_refl _) (.cells #[] 5)).trans hb2
      refine hQ1 _ _ hb2 ?_
      refine can_make rfl rfl wr.heap.size (Nat.le_refl _) (fun Q1 hQ1 => ?_)
      go_wp2_with (at_builtin; go_loud (refine wpl_app rfl rfl ho2 rfl (hrf2.below' hd2 hsr) (by omega) hd2.size ?_); intro A3 c3 w3 ho3 hb3)
      have hd3 := hd2.trans hb3
      rw [Nat.zero_add] at ho3
      refine hQ1 _ _ hb3 ?_
      repeat ((first | (refine can_pure (v := ?_) rfl rfl rfl ?_ ?_; rotate_left; · (intro w'; go_simp; try with_reducible rfl)) | (refine can_skip rfl rfl rfl ?_)); simp only [Act.put, List.setIfInBounds_toArray, List.set_cons_zero, List.set_cons_succ])
      refine can_done ?_
      have hbz3 := hbz.thn (Nat.le_refl _) hd3
      have hbw3 := hbw.thn hs7 hd3
      have hvv : (uV (xs ++ f) = -1 ∧ ubegs xs f = false) ∨ ∃ D : Nat, uV (xs ++ f) = D ∧ D ≤ 1114111 ∧ ubegs xs f = decide (n < (uput D).length) := by
        unfold uV ubegs
        by_cases h0 : (utk (xs ++ f)).2.2 = 0
        · obtain ⟨h1, h2, h3, h4⟩ := utk_ok h0
          exact .inr ⟨_, if_pos h0, h2, by rw [h4, hl]; simp [h0]⟩
        · exact .inl ⟨if_neg h0, by simp [h0]⟩
      go_wp2_with fail
      refine (whole_any A3 _ c3 w3.heap.size (xs ++ f) w3 ho3.rd (Nat.le_refl _) ho3.cap (by omega)).mono ?_
      rintro e w4 ⟨rfl, hb4⟩
      have hbz4 := hbz3.thn (Nat.le_refl _) hb4
      have hbw4 := hbw3.thn hs7 hb4
      rcases hvv with ⟨hv, hq⟩ | ⟨D, hv, hD, hq⟩
      · rw [hv]
        have HQ := Lib.hid hq
        clear hv hq
        go_wp2_with fail
        go_roundw
        case rel =>
          refine ⟨k + 1, by simp, by omega, fun j f' hj hf' => ?_, hbw4⟩
          by_cases hjk : j < k
          · exact HNO.out j f' hjk hf'
          · obtain rfl : j = k := by omega
            rw [HF.out] at hf'
            injection hf' with hf'
            subst hf'
            exact HQ.out
        case measure => simp [intOf]; omega
      · rw [hv]
        have HQ := Lib.hid hq
        have hge : (0 : Int) ≤ (D : Int) := by omega
        clear hv hq
        go_wp2_with fail
        refine (refput_any D hD w4.heap.size _ (Nat.le_refl _)).mono ?_
        rintro e w5 ⟨A5, n5, c5, rfl, hn5, ho5, hb5⟩
        have hbz5 := hbz4.thn (Nat.le_refl _) hb5
        have hbw5 := hbw4.thn hs7 hb5
        rw [← hn5] at HQ
        clear hn5
        by_cases hlt : n < n5
        · go_wp2_with fail
          have hRt : R = true := by
            rw [HR.out, List.any_eq_true]
            refine ⟨f, List.mem_of_getElem? HF.out, ?_⟩
            rw [HQ.out]; simp [hlt]
          go_ret
          exact ⟨by rw [hRt]; rfl, hbz5⟩
        · go_wp2_with fail
          go_roundw
          case rel =>
            refine ⟨k + 1, by simp, by omega, fun j f' hj hf' => ?_, hbw5⟩
            by_cases hjk : j < k
            · exact HNO.out j f' hjk hf'
            · obtain rfl : j = k := by omega
              rw [HF.out] at hf'
              injection hf' with hf'
              subst hf'
              rw [HQ.out]; simp; omega
          case measure => simp [intOf]; omega

def ubegun (xs : List UInt8) : Bool := xs.isEmpty || ufills.any (ubegs xs)
theorem begun_all (A : Option Addr) (n c B : Nat) (xs : List UInt8) (w : World) (hr : Rd w B A n xs) (hB : B ≤ w.heap.size) (hnc : n ≤ c) (hn : n ≤ 1000000) :
    Calls Try.prog 65 #[.slice A n c] w fun e w' => e = .returned (.bool (ubegun xs)) ∧ Below w.heap.size w w' := by
  have hl := hr.len
  by_cases hx : n = 0
  · subst hx
    have : ubegun xs = true := by
      have : xs = [] := List.eq_nil_of_length_eq_zero hl
      subst this; rfl
    rw [this]
    clear this hl hr
    go_enter Try.func65, Try.ntmps65
    go_wp2
    go_ret
    exact ⟨rfl, Below.refl _ _⟩
  · have : ubegun xs = ufills.any (ubegs xs) := by
      unfold ubegun
      cases xs with
      | nil => simp at hl; omega
      | cons a r => simp
    rw [this]
    exact begun_any A n c B xs w hr hB hnc hn hx
theorem ubegun_short {xs : List UInt8} (h : utk xs = (0, 0, 10)) : xs.length < 4 ∧ ubegun xs = true := by
  obtain ⟨h1, h2⟩ := ushort_begs (b := xs) (by rw [h])
  refine ⟨h1, ?_⟩
  unfold ubegun
  rcases h2 with rfl | ⟨f, hf, hb⟩
  · rfl
  · rw [Bool.or_eq_true]
    exact .inr (List.any_eq_true.2 ⟨f, hf, hb⟩)
theorem ubegun_bad {xs : List UInt8} (h : utk xs = (0, 0, 11)) : ubegun xs = false := by
  unfold ubegun
  rw [Bool.or_eq_false_iff]
  constructor
  · cases xs with
    | nil => cases h
    | cons a r => rfl
  · rw [List.any_eq_false]
    intro f _ hb
    have := ubegs_short hb
    rw [h] at this
    cases this
end Go.Proofs.Ytodgnlhakafhoaa.Ut
