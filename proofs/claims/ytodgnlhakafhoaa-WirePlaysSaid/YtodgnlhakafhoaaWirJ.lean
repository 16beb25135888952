/- The layer wire: the program's reader, bits. -/
import Derived.Test.YtodgnlhakafhoaaWirI
import Derived.Laws.BitsAllLaws
namespace Go.Proofs.Ytodgnlhakafhoaa.Wr
open Go.ChangeShapes Go.WideShapes Go.ChangeAt Go.RowKit
open Num Mem

def leV : List UInt8 → Nat
  | [] => 0
  | x :: r => x.toNat + 256 * leV r
theorem leV_snoc : ∀ (l : List UInt8) (x : UInt8), leV (l ++ [x]) = leV l + x.toNat * 256 ^ l.length
  | [], x => by simp [leV]
  | y :: r, x => by
    rw [List.cons_append]
    simp only [leV, List.length_cons]
    rw [leV_snoc r x, Nat.pow_succ, Nat.mul_add, ← Nat.mul_assoc, Nat.mul_comm 256 x.toNat, Nat.mul_assoc, Nat.mul_comm 256 (256 ^ r.length)]
    omega
theorem leV_lt : ∀ (l : List UInt8), leV l < 256 ^ l.length
  | [] => by simp [leV]
  | y :: r => by
    have := leV_lt r
    have hy := y.toNat_lt
    simp only [leV, List.length_cons]
    rw [Nat.pow_succ]
    omega
theorem or_val (N x k : Nat) (hk : k ≤ 7) (hN : N < 256 ^ k) (hx : x < 256) : bits BinOp.or IntKind.u64 (N : Int) ((x * 256 ^ k : Nat) : Int) = ((N + x * 256 ^ k : Nat) : Int) := by
  have hp : 256 ^ k ≤ 256 ^ 7 := Nat.pow_le_pow_right (by omega) hk
  have h7 : (256 : Nat) ^ 7 = 72057594037927936 := by decide
  rw [h7] at hp
  have hb : x * 256 ^ k ≤ 255 * 256 ^ k := Nat.mul_le_mul_right _ (by omega)
  rw [u64_or_nat _ _ (by omega) (by omega)]
  have e : (256 : Nat) ^ k = 2 ^ (8 * k) := by rw [Nat.pow_mul]
  rw [e] at hN ⊢
  rw [Nat.or_comm, Nat.mul_comm x, ← Nat.two_pow_add_eq_or_of_lt hN x, Nat.add_comm]
set_option maxRecDepth 100000 in
set_option maxHeartbeats 2000000 in
theorem bits_no (A : Option Addr) (n c : Nat) (a e k : Int) (w : World) (h1 : nxE n a e (min k 8) ≠ 0) (hn : n ≤ 1000000000) :
    Calls Try.prog 49 #[.agg #[.slice A n c, .int .i64 a, .int .i64 e], .int .i64 k] w fun e' w' => e' = .returned (.tuple #[.int .u64 0, .agg #[.slice A n c, .int .i64 a, .int .i64 (nxE n a e (min k 8))]]) ∧ Below w.heap.size w w' := by
  have hnext := fun w1 => next_no A n c a e (min k 8) w1 h1 hn
  obtain ⟨R, hR⟩ : ∃ R, R = nxE n a e (min k 8) := ⟨_, rfl⟩
  rw [← hR] at h1 hnext ⊢
  obtain ⟨K, hK⟩ : ∃ K, K = min k 8 := ⟨_, rfl⟩
  rw [← hK] at hnext
  have HN := Lib.hid hnext
  clear hR hnext
  rcases (show 8 < k ∨ ¬ 8 < k by omega) with h8 | h8
  · obtain rfl : K = 8 := by omega
    clear hK
    go_enter Try.func49, Try.ntmps49
    go_wp2_with fail
    refine (HN.out _).mono ?_
    rintro e' w2 ⟨rfl, hb2⟩
    have x1 : Bxr w2 w.heap.size A n c a e := Bxr.below ⟨⟨by simp, by simp, by simp⟩, by simp, by simp, by simp⟩ hb2 (by simp <;> omega)
    have x2 : Bxr w2 (w.heap.size + 1) none 0 0 0 0 := Bxr.below ⟨⟨by simp, by simp, by simp⟩, by simp, by simp, by simp⟩ hb2 (by simp <;> omega)
    have hbz : Below w.heap.size w w2 := (((Below.refl _ _).al (Nat.le_refl _) _).al (Nat.le_refl _) _).thn (Nat.le_refl _) hb2
    have hsz := hb2.size
    simp only [World.size_alloc] at hsz
    have hs0_w2 : w.heap.size < w2.heap.size := by omega
    have hs1_w2 : w.heap.size + 1 < w2.heap.size := by omega
    have hs2_w2 : w.heap.size < w2.heap.size + 1 := by omega
    have hs3_w2 : w.heap.size + 1 < w2.heap.size + 1 := by omega
    have hs4_w2 : ¬ w.heap.size + 1 = w2.heap.size := by omega
    have hs5_w2 : ¬ w.heap.size + 1 = w2.heap.size + 1 := by omega
    obtain ⟨⟨p0, p1, p2⟩, f0, f1, f2⟩ := x1
    obtain ⟨⟨q0, q1, q2⟩, g0, g1, g2⟩ := x2
    clear hb2
    go_wp2_with fail
    refine wp_loop_rounds 1 ?_
    rw [rounds_succ]
    go_wp2_with fail
    go_region
    all_goals go_wp2_with fail
    all_goals refine bodyPost_ret (ret_tc (A := A) (n := n) (c := c) (a := a) (e := R) rfl rfl ⟨by go_simp, by go_simp, by go_simp⟩) rfl ⟨by simp [rdv], ?_⟩
    all_goals (repeat' (first | with_reducible exact Below.refl _ _ | with_reducible assumption | with_reducible refine Below.drew ?_ | with_reducible refine Below.drewN ?_ _ | with_reducible refine Below.setCell ?_ (by simp <;> omega) _ | with_reducible refine Below.alloc ?_ (by simp <;> omega) _))
  · obtain rfl : K = k := by omega
    clear hK
    go_enter Try.func49, Try.ntmps49
    go_wp2_with fail
    refine (HN.out _).mono ?_
    rintro e' w2 ⟨rfl, hb2⟩
    have x1 : Bxr w2 w.heap.size A n c a e := Bxr.below ⟨⟨by simp, by simp, by simp⟩, by simp, by simp, by simp⟩ hb2 (by simp <;> omega)
    have x2 : Bxr w2 (w.heap.size + 1) none 0 0 0 0 := Bxr.below ⟨⟨by simp, by simp, by simp⟩, by simp, by simp, by simp⟩ hb2 (by simp <;> omega)
    have hbz : Below w.heap.size w w2 := (((Below.refl _ _).al (Nat.le_refl _) _).al (Nat.le_refl _) _).thn (Nat.le_refl _) hb2
    have hsz := hb2.size
    simp only [World.size_alloc] at hsz
    have hs0_w2 : w.heap.size < w2.heap.size := by omega
    have hs1_w2 : w.heap.size + 1 < w2.heap.size := by omega
    have hs2_w2 : w.heap.size < w2.heap.size + 1 := by omega
    have hs3_w2 : w.heap.size + 1 < w2.heap.size + 1 := by omega
    have hs4_w2 : ¬ w.heap.size + 1 = w2.heap.size := by omega
    have hs5_w2 : ¬ w.heap.size + 1 = w2.heap.size + 1 := by omega
    obtain ⟨⟨p0, p1, p2⟩, f0, f1, f2⟩ := x1
    obtain ⟨⟨q0, q1, q2⟩, g0, g1, g2⟩ := x2
    clear hb2
    go_wp2_with fail
    refine wp_loop_rounds 1 ?_
    rw [rounds_succ]
    go_wp2_with fail
    go_region
    all_goals go_wp2_with fail
    all_goals refine bodyPost_ret (ret_tc (A := A) (n := n) (c := c) (a := a) (e := R) rfl rfl ⟨by go_simp, by go_simp, by go_simp⟩) rfl ⟨by simp [rdv], ?_⟩
    all_goals (repeat' (first | with_reducible exact Below.refl _ _ | with_reducible assumption | with_reducible refine Below.drew ?_ | with_reducible refine Below.drewN ?_ _ | with_reducible refine Below.setCell ?_ (by simp <;> omega) _ | with_reducible refine Below.alloc ?_ (by simp <;> omega) _))
set_option maxRecDepth 100000 in
set_option maxHeartbeats 2000000 in
theorem bits_ok (A : Option Addr) (n c B q m : Nat) (k : Int) (xs : List UInt8) (w : World) (hr : Rd w B A n xs) (hB : B ≤ w.heap.size) (hnc : n ≤ c) (hn : n ≤ 1000000000) (hm : (m : Int) = max (min k 8) 0) (hq : q + m ≤ n) (h8 : ¬ 8 < k) :
    Calls Try.prog 49 #[.agg #[.slice A n c, .int .i64 q, .int .i64 0], .int .i64 k] w fun e' w' => e' = .returned (.tuple #[.int .u64 (leV ((xs.drop q).take m)), .agg #[.slice A n c, .int .i64 ((q : Int) + m), .int .i64 0]]) ∧ Below w.heap.size w w' := by
  have hnext := fun B1 w1 h1 h2 => next_ok A n c B1 q m k xs w1 h1 h2 hnc hn (by omega) hq
  rw [show ((q + m : Nat) : Int) = (q : Int) + m by simp] at hnext
  have hyl : ((xs.drop q).take m).length = m := by rw [List.length_take, List.length_drop, hr.len]; omega
  have hm8 : m ≤ 8 := by omega
  generalize (xs.drop q).take m = ys at hnext hyl ⊢
  have HN := Lib.hid hnext
  have hrb : ∀ w', Below w.heap.size w w' → Rd w' B A n xs := fun _ h => hr.below' h hB
  have HRB := Lib.hid hrb
  clear hnext hrb hr hm
  go_enter Try.func49, Try.ntmps49
  go_wp2_with fail
  refine (HN.out B _ (HRB.out _ (by repeat' (first | with_reducible exact Below.refl _ _ | with_reducible assumption | with_reducible refine Below.drew ?_ | with_reducible refine Below.drewN ?_ _ | with_reducible refine Below.setCell ?_ (by simp <;> omega) _ | with_reducible refine Below.alloc ?_ (by simp <;> omega) _))) (by simp; omega)).mono ?_
  rintro e' w2 ⟨A1, c1, rfl, hc1, hr0, hb2⟩
  have hr1 := hr0.below' hb2 (by simp; omega)
  clear hr0
  have x1 : Bxr w2 w.heap.size A n c q 0 := Bxr.below ⟨⟨by simp, by simp, by simp⟩, by simp, by simp, by simp⟩ hb2 (by simp <;> omega)
  have x2 : Bxr w2 (w.heap.size + 1) none 0 0 0 0 := Bxr.below ⟨⟨by simp, by simp, by simp⟩, by simp, by simp, by simp⟩ hb2 (by simp <;> omega)
  have hbz : Below w.heap.size w w2 := (((Below.refl _ _).al (Nat.le_refl _) _).al (Nat.le_refl _) _).thn (Nat.le_refl _) hb2
  have hsz := hb2.size
  simp only [World.size_alloc] at hsz
  have hs0_w2 : w.heap.size < w2.heap.size := by omega
  have hs1_w2 : w.heap.size + 1 < w2.heap.size := by omega
  have hs2_w2 : w.heap.size < w2.heap.size + 1 := by omega
  have hs3_w2 : w.heap.size + 1 < w2.heap.size + 1 := by omega
  have hs4_w2 : ¬ w.heap.size + 1 = w2.heap.size := by omega
  have hs5_w2 : ¬ w.heap.size + 1 = w2.heap.size + 1 := by omega
  obtain ⟨⟨p0, p1, p2⟩, f0, f1, f2⟩ := x1
  obtain ⟨⟨q0, q1, q2⟩, g0, g1, g2⟩ := x2
  clear hb2
  have hr2 := hr1.alloc (by omega) (.cells #[.slice A n c, .int .i64 ((q : Int) + m), .int .i64 0] 60)
  clear hr1
  go_wp2_with fail
  go_loop [8, 20] (fun N i => ∃ j : Nat, N = .int .u64 (leV (ys.take j) : Nat) ∧ i = .int .i64 j ∧ j ≤ m) (fun _ i => m - (intOf i).toNat)
  case atStart => exact ⟨0, rfl, rfl, by omega⟩
  case round =>
    obtain ⟨j, rfl, rfl, hj⟩ := hrel
    by_cases hjm : j = m
    · have hV : leV (ys.take j) = leV ys := by rw [List.take_of_length_le (by omega)]
      rw [hV]
      subst hjm
      go_wp2_with fail
      go_region
      all_goals go_wp2_with fail
      all_goals refine bodyPost_ret (ret_tc (A := A) (n := n) (c := c) (a := ((q : Int) + j)) (e := 0) rfl rfl ⟨by go_simp, by go_simp, by go_simp⟩) rfl ⟨by simp [rdv], ?_⟩
      all_goals (repeat' (first | with_reducible exact Below.refl _ _ | with_reducible assumption | with_reducible refine Below.drew ?_ | with_reducible refine Below.drewN ?_ _ | with_reducible refine Below.setCell ?_ (by simp <;> omega) _ | with_reducible refine Below.alloc ?_ (by simp <;> omega) _))
    · obtain ⟨g, o, y, hA, hgB, hy, hc⟩ := hr2.at_ (k := j) (by omega)
      subst hA
      have hy255 := y.toNat_lt
      have htl : (ys.take j).length = j := by rw [List.length_take]; omega
      have hlt := leV_lt (ys.take j)
      rw [htl] at hlt
      have hst : leV (ys.take (j + 1)) = leV (ys.take j) + y.toNat * 256 ^ j := by
        rw [List.take_add_one, hy]
        show leV (ys.take j ++ [y]) = _
        rw [leV_snoc, htl]
      have hj8 : j ≤ 7 := by omega
      have hor := or_val (leV (ys.take j)) y.toNat j hj8 hlt hy255
      generalize leV (ys.take j) = N at hlt hst hor
      have HST := Lib.hid hst
      clear hst htl hy hr2
      have hji : (j : Int) < m := by omega
      rcases (show j = 0 ∨ j = 1 ∨ j = 2 ∨ j = 3 ∨ j = 4 ∨ j = 5 ∨ j = 6 ∨ j = 7 by omega) with hk | hk | hk | hk | hk | hk | hk | hk
      · subst hk
        have hp : (256 : Nat) ^ 0 = 1 := by decide
        rw [hp] at hor hlt
        try rw [Nat.add_zero] at hc
        have hor2 : bits BinOp.or IntKind.u64 (N : Int) (y.toNat : Int) = ((N + y.toNat : Nat) : Int) := by simpa using hor
        clear hor
        go_wp2_with fail
        go_round
        case rel => exact ⟨0 + 1, by rw [HST.out, hp]; simp, by simp, by omega⟩
        case measure => simp [intOf]; omega
      · subst hk
        have hp : (256 : Nat) ^ 1 = 256 := by decide
        rw [hp] at hor hlt
        try rw [Nat.add_zero] at hc
        have hor2 : bits BinOp.or IntKind.u64 (N : Int) ((y.toNat : Int) * 256) = ((N + y.toNat * 256 : Nat) : Int) := by simpa using hor
        clear hor
        go_wp2_with fail
        go_round
        case rel => exact ⟨1 + 1, by rw [HST.out, hp]; simp, by simp, by omega⟩
        case measure => simp [intOf]; omega
      · subst hk
        have hp : (256 : Nat) ^ 2 = 65536 := by decide
        rw [hp] at hor hlt
        try rw [Nat.add_zero] at hc
        have hor2 : bits BinOp.or IntKind.u64 (N : Int) ((y.toNat : Int) * 65536) = ((N + y.toNat * 65536 : Nat) : Int) := by simpa using hor
        clear hor
        go_wp2_with fail
        go_round
        case rel => exact ⟨2 + 1, by rw [HST.out, hp]; simp, by simp, by omega⟩
        case measure => simp [intOf]; omega
      · subst hk
        have hp : (256 : Nat) ^ 3 = 16777216 := by decide
        rw [hp] at hor hlt
        try rw [Nat.add_zero] at hc
        have hor2 : bits BinOp.or IntKind.u64 (N : Int) ((y.toNat : Int) * 16777216) = ((N + y.toNat * 16777216 : Nat) : Int) := by simpa using hor
        clear hor
        go_wp2_with fail
        go_round
        case rel => exact ⟨3 + 1, by rw [HST.out, hp]; simp, by simp, by omega⟩
        case measure => simp [intOf]; omega
      · subst hk
        have hp : (256 : Nat) ^ 4 = 4294967296 := by decide
        rw [hp] at hor hlt
        try rw [Nat.add_zero] at hc
        have hor2 : bits BinOp.or IntKind.u64 (N : Int) ((y.toNat : Int) * 4294967296) = ((N + y.toNat * 4294967296 : Nat) : Int) := by simpa using hor
        clear hor
        go_wp2_with fail
        go_round
        case rel => exact ⟨4 + 1, by rw [HST.out, hp]; simp, by simp, by omega⟩
        case measure => simp [intOf]; omega
      · subst hk
        have hp : (256 : Nat) ^ 5 = 1099511627776 := by decide
        rw [hp] at hor hlt
        try rw [Nat.add_zero] at hc
        have hor2 : bits BinOp.or IntKind.u64 (N : Int) ((y.toNat : Int) * 1099511627776) = ((N + y.toNat * 1099511627776 : Nat) : Int) := by simpa using hor
        clear hor
        go_wp2_with fail
        go_round
        case rel => exact ⟨5 + 1, by rw [HST.out, hp]; simp, by simp, by omega⟩
        case measure => simp [intOf]; omega
      · subst hk
        have hp : (256 : Nat) ^ 6 = 281474976710656 := by decide
        rw [hp] at hor hlt
        try rw [Nat.add_zero] at hc
        have hor2 : bits BinOp.or IntKind.u64 (N : Int) ((y.toNat : Int) * 281474976710656) = ((N + y.toNat * 281474976710656 : Nat) : Int) := by simpa using hor
        clear hor
        go_wp2_with fail
        go_round
        case rel => exact ⟨6 + 1, by rw [HST.out, hp]; simp, by simp, by omega⟩
        case measure => simp [intOf]; omega
      · subst hk
        have hp : (256 : Nat) ^ 7 = 72057594037927936 := by decide
        rw [hp] at hor hlt
        try rw [Nat.add_zero] at hc
        have hor2 : bits BinOp.or IntKind.u64 (N : Int) ((y.toNat : Int) * 72057594037927936) = ((N + y.toNat * 72057594037927936 : Nat) : Int) := by simpa using hor
        clear hor
        go_wp2_with fail
        go_round
        case rel => exact ⟨7 + 1, by rw [HST.out, hp]; simp, by simp, by omega⟩
        case measure => simp [intOf]; omega
set_option maxRecDepth 100000 in
set_option maxHeartbeats 2000000 in
theorem bits_ok8 (A : Option Addr) (n c B q m : Nat) (k : Int) (xs : List UInt8) (w : World) (hr : Rd w B A n xs) (hB : B ≤ w.heap.size) (hnc : n ≤ c) (hn : n ≤ 1000000000) (hm : (m : Int) = max (min k 8) 0) (hq : q + m ≤ n) (h8 : 8 < k) :
    Calls Try.prog 49 #[.agg #[.slice A n c, .int .i64 q, .int .i64 0], .int .i64 k] w fun e' w' => e' = .returned (.tuple #[.int .u64 (leV ((xs.drop q).take m)), .agg #[.slice A n c, .int .i64 ((q : Int) + m), .int .i64 0]]) ∧ Below w.heap.size w w' := by
  have hnext := fun B1 w1 h1 h2 => next_ok A n c B1 q m 8 xs w1 h1 h2 hnc hn (by omega) hq
  rw [show ((q + m : Nat) : Int) = (q : Int) + m by simp] at hnext
  have hyl : ((xs.drop q).take m).length = m := by rw [List.length_take, List.length_drop, hr.len]; omega
  have hm8 : m ≤ 8 := by omega
  generalize (xs.drop q).take m = ys at hnext hyl ⊢
  have HN := Lib.hid hnext
  have hrb : ∀ w', Below w.heap.size w w' → Rd w' B A n xs := fun _ h => hr.below' h hB
  have HRB := Lib.hid hrb
  clear hnext hrb hr hm
  go_enter Try.func49, Try.ntmps49
  go_wp2_with fail
  refine (HN.out B _ (HRB.out _ (by repeat' (first | with_reducible exact Below.refl _ _ | with_reducible assumption | with_reducible refine Below.drew ?_ | with_reducible refine Below.drewN ?_ _ | with_reducible refine Below.setCell ?_ (by simp <;> omega) _ | with_reducible refine Below.alloc ?_ (by simp <;> omega) _))) (by simp; omega)).mono ?_
  rintro e' w2 ⟨A1, c1, rfl, hc1, hr0, hb2⟩
  have hr1 := hr0.below' hb2 (by simp; omega)
  clear hr0
  have x1 : Bxr w2 w.heap.size A n c q 0 := Bxr.below ⟨⟨by simp, by simp, by simp⟩, by simp, by simp, by simp⟩ hb2 (by simp <;> omega)
  have x2 : Bxr w2 (w.heap.size + 1) none 0 0 0 0 := Bxr.below ⟨⟨by simp, by simp, by simp⟩, by simp, by simp, by simp⟩ hb2 (by simp <;> omega)
  have hbz : Below w.heap.size w w2 := (((Below.refl _ _).al (Nat.le_refl _) _).al (Nat.le_refl _) _).thn (Nat.le_refl _) hb2
  have hsz := hb2.size
  simp only [World.size_alloc] at hsz
  have hs0_w2 : w.heap.size < w2.heap.size := by omega
  have hs1_w2 : w.heap.size + 1 < w2.heap.size := by omega
  have hs2_w2 : w.heap.size < w2.heap.size + 1 := by omega
  have hs3_w2 : w.heap.size + 1 < w2.heap.size + 1 := by omega
  have hs4_w2 : ¬ w.heap.size + 1 = w2.heap.size := by omega
  have hs5_w2 : ¬ w.heap.size + 1 = w2.heap.size + 1 := by omega
  obtain ⟨⟨p0, p1, p2⟩, f0, f1, f2⟩ := x1
  obtain ⟨⟨q0, q1, q2⟩, g0, g1, g2⟩ := x2
  clear hb2
  have hr2 := hr1.alloc (by omega) (.cells #[.slice A n c, .int .i64 ((q : Int) + m), .int .i64 0] 60)
  clear hr1
  go_wp2_with fail
  go_loop [8, 20] (fun N i => ∃ j : Nat, N = .int .u64 (leV (ys.take j) : Nat) ∧ i = .int .i64 j ∧ j ≤ m) (fun _ i => m - (intOf i).toNat)
  case atStart => exact ⟨0, rfl, rfl, by omega⟩
  case round =>
    obtain ⟨j, rfl, rfl, hj⟩ := hrel
    by_cases hjm : j = m
    · have hV : leV (ys.take j) = leV ys := by rw [List.take_of_length_le (by omega)]
      rw [hV]
      subst hjm
      go_wp2_with fail
      go_region
      all_goals go_wp2_with fail
      all_goals refine bodyPost_ret (ret_tc (A := A) (n := n) (c := c) (a := ((q : Int) + j)) (e := 0) rfl rfl ⟨by go_simp, by go_simp, by go_simp⟩) rfl ⟨by simp [rdv], ?_⟩
      all_goals (repeat' (first | with_reducible exact Below.refl _ _ | with_reducible assumption | with_reducible refine Below.drew ?_ | with_reducible refine Below.drewN ?_ _ | with_reducible refine Below.setCell ?_ (by simp <;> omega) _ | with_reducible refine Below.alloc ?_ (by simp <;> omega) _))
    · obtain ⟨g, o, y, hA, hgB, hy, hc⟩ := hr2.at_ (k := j) (by omega)
      subst hA
      have hy255 := y.toNat_lt
      have htl : (ys.take j).length = j := by rw [List.length_take]; omega
      have hlt := leV_lt (ys.take j)
      rw [htl] at hlt
      have hst : leV (ys.take (j + 1)) = leV (ys.take j) + y.toNat * 256 ^ j := by
        rw [List.take_add_one, hy]
        show leV (ys.take j ++ [y]) = _
        rw [leV_snoc, htl]
      have hj8 : j ≤ 7 := by omega
      have hor := or_val (leV (ys.take j)) y.toNat j hj8 hlt hy255
      generalize leV (ys.take j) = N at hlt hst hor
      have HST := Lib.hid hst
      clear hst htl hy hr2
      have hji : (j : Int) < m := by omega
      rcases (show j = 0 ∨ j = 1 ∨ j = 2 ∨ j = 3 ∨ j = 4 ∨ j = 5 ∨ j = 6 ∨ j = 7 by omega) with hk | hk | hk | hk | hk | hk | hk | hk
      · subst hk
        have hp : (256 : Nat) ^ 0 = 1 := by decide
        rw [hp] at hor hlt
        try rw [Nat.add_zero] at hc
        have hor2 : bits BinOp.or IntKind.u64 (N : Int) (y.toNat : Int) = ((N + y.toNat : Nat) : Int) := by simpa using hor
        clear hor
        go_wp2_with fail
        go_round
        case rel => exact ⟨0 + 1, by rw [HST.out, hp]; simp, by simp, by omega⟩
        case measure => simp [intOf]; omega
      · subst hk
        have hp : (256 : Nat) ^ 1 = 256 := by decide
        rw [hp] at hor hlt
        try rw [Nat.add_zero] at hc
        have hor2 : bits BinOp.or IntKind.u64 (N : Int) ((y.toNat : Int) * 256) = ((N + y.toNat * 256 : Nat) : Int) := by simpa using hor
        clear hor
        go_wp2_with fail
        go_round
        case rel => exact ⟨1 + 1, by rw [HST.out, hp]; simp, by simp, by omega⟩
        case measure => simp [intOf]; omega
      · subst hk
        have hp : (256 : Nat) ^ 2 = 65536 := by decide
        rw [hp] at hor hlt
        try rw [Nat.add_zero] at hc
        have hor2 : bits BinOp.or IntKind.u64 (N : Int) ((y.toNat : Int) * 65536) = ((N + y.toNat * 65536 : Nat) : Int) := by simpa using hor
        clear hor
        go_wp2_with fail
        go_round
        case rel => exact ⟨2 + 1, by rw [HST.out, hp]; simp, by simp, by omega⟩
        case measure => simp [intOf]; omega
      · subst hk
        have hp : (256 : Nat) ^ 3 = 16777216 := by decide
        rw [hp] at hor hlt
        try rw [Nat.add_zero] at hc
        have hor2 : bits BinOp.or IntKind.u64 (N : Int) ((y.toNat : Int) * 16777216) = ((N + y.toNat * 16777216 : Nat) : Int) := by simpa using hor
        clear hor
        go_wp2_with fail
        go_round
        case rel => exact ⟨3 + 1, by rw [HST.out, hp]; simp, by simp, by omega⟩
        case measure => simp [intOf]; omega
      · subst hk
        have hp : (256 : Nat) ^ 4 = 4294967296 := by decide
        rw [hp] at hor hlt
        try rw [Nat.add_zero] at hc
        have hor2 : bits BinOp.or IntKind.u64 (N : Int) ((y.toNat : Int) * 4294967296) = ((N + y.toNat * 4294967296 : Nat) : Int) := by simpa using hor
        clear hor
        go_wp2_with fail
        go_round
        case rel => exact ⟨4 + 1, by rw [HST.out, hp]; simp, by simp, by omega⟩
        case measure => simp [intOf]; omega
      · subst hk
        have hp : (256 : Nat) ^ 5 = 1099511627776 := by decide
        rw [hp] at hor hlt
        try rw [Nat.add_zero] at hc
        have hor2 : bits BinOp.or IntKind.u64 (N : Int) ((y.toNat : Int) * 1099511627776) = ((N + y.toNat * 1099511627776 : Nat) : Int) := by simpa using hor
        clear hor
        go_wp2_with fail
        go_round
        case rel => exact ⟨5 + 1, by rw [HST.out, hp]; simp, by simp, by omega⟩
        case measure => simp [intOf]; omega
      · subst hk
        have hp : (256 : Nat) ^ 6 = 281474976710656 := by decide
        rw [hp] at hor hlt
        try rw [Nat.add_zero] at hc
        have hor2 : bits BinOp.or IntKind.u64 (N : Int) ((y.toNat : Int) * 281474976710656) = ((N + y.toNat * 281474976710656 : Nat) : Int) := by simpa using hor
        clear hor
        go_wp2_with fail
        go_round
        case rel => exact ⟨6 + 1, by rw [HST.out, hp]; simp, by simp, by omega⟩
        case measure => simp [intOf]; omega
      · subst hk
        have hp : (256 : Nat) ^ 7 = 72057594037927936 := by decide
        rw [hp] at hor hlt
        try rw [Nat.add_zero] at hc
        have hor2 : bits BinOp.or IntKind.u64 (N : Int) ((y.toNat : Int) * 72057594037927936) = ((N + y.toNat * 72057594037927936 : Nat) : Int) := by simpa using hor
        clear hor
        go_wp2_with fail
        go_round
        case rel => exact ⟨7 + 1, by rw [HST.out, hp]; simp, by simp, by omega⟩
        case measure => simp [intOf]; omega

def btU (n : Nat) (xs : List UInt8) (a e k : Int) : Nat := if nxE n a e (min k 8) = 0 then leV ((xs.drop a.toNat).take (max (min k 8) 0).toNat) else 0
theorem bits_any (A : Option Addr) (n c B : Nat) (a e : Int) (xs : List UInt8) (w : World) (hr : Rd w B A n xs) (hB : B ≤ w.heap.size) (hnc : n ≤ c) (hn : n ≤ 1000000000) (k : Int) :
    Calls Try.prog 49 #[.agg #[.slice A n c, .int .i64 a, .int .i64 e], .int .i64 k] w fun e' w' => e' = .returned (.tuple #[.int .u64 (btU n xs a e k), .agg #[.slice A n c, .int .i64 (fxT n a e (min k 8)), .int .i64 (nxE n a e (min k 8))]]) ∧ Below w.heap.size w w' := by
  have hl := hr.len
  unfold btU fxT
  by_cases h1 : nxE n a e (min k 8) = 0
  · obtain ⟨rfl, h2, h3, h4⟩ := nxE_zero h1
    obtain ⟨q, rfl⟩ := Int.eq_ofNat_of_zero_le h2
    obtain ⟨m, hm⟩ := Int.eq_ofNat_of_zero_le (show 0 ≤ max (min k 8) 0 by omega)
    rw [if_pos h1, if_pos h1, h1, hm, Int.toNat_natCast, Int.toNat_natCast]
    by_cases h8 : 8 < k
    · exact bits_ok8 A n c B q m k xs w hr hB hnc hn hm.symm (by omega) h8
    · exact bits_ok A n c B q m k xs w hr hB hnc hn hm.symm (by omega) h8
  · rw [if_neg h1, if_neg h1]
    exact bits_no A n c a e k w h1 hn
end Go.Proofs.Ytodgnlhakafhoaa.Wr
