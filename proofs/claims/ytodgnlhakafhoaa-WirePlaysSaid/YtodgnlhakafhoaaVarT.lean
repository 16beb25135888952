/- The layer varint: numbers taken. -/
import Derived.Test.YtodgnlhakafhoaaVarF
namespace Go.Proofs.Ytodgnlhakafhoaa.Vr
open Go.ChangeShapes Go.WideShapes Go.ChangeAt Go.RowKit
open Num Zg Mem

/-- the number that stands first, of at most so many bytes, the last of which is at most so great: the number, how many bytes, why there is none -/
def tk (most last : Nat) : Nat → Nat → List UInt8 → Nat × Nat × Nat
  | _, _, [] => (0, 0, 10)
  | i, u, c :: r =>
    if i + 1 = most ∧ last < c.toNat then (0, 0, 11)
    else if c.toNat = 0 ∧ 0 < i then (0, 0, 11)
    else if c.toNat < 128 then (u + c.toNat % 128 * 128 ^ i, i + 1, 0)
    else tk most last (i + 1) (u + c.toNat % 128 * 128 ^ i) r

theorem pow128 (i : Nat) : 2 ^ (7 * i) = 128 ^ i := by rw [Nat.pow_mul]
theorem addU_val {u i : Nat} {c : UInt8} (hu : u < 128 ^ i) (hi : i ≤ 8 ∨ i = 9 ∧ c.toNat ≤ 1) : addU u (7 * (i : Int)) (c.toNat : Int) = ((u + c.toNat % 128 * 128 ^ i : Nat) : Int) := by
  have hc := c.toNat_lt
  unfold addU
  rw [show (127 : Int) = ((127 : Nat) : Int) from rfl, u8_and_nat _ _ (by omega) (by omega), nat_mask7]
  rw [show (7 * (i : Int)).toNat = 7 * i by omega]
  have hlt : c.toNat % 128 * 128 ^ i < 18446744073709551616 := by
    rcases hi with h | ⟨h, h1⟩
    · have h2 : 128 ^ i ≤ 128 ^ 8 := Nat.pow_le_pow_right (by omega) h
      have h3 : c.toNat % 128 ≤ 127 := by omega
      have := Nat.mul_le_mul h3 h2
      omega
    · subst h
      have h2 : c.toNat % 128 ≤ 1 := by omega
      have := Nat.mul_le_mul_right (128 ^ 9) h2
      omega
  have hpos : 0 < 128 ^ i := Nat.pow_pos (by omega)
  have hul : u < 18446744073709551616 := by
    have h2 : 128 ^ i ≤ 128 ^ 9 := Nat.pow_le_pow_right (by omega) (by omega)
    omega
  rw [wrap_u64, wrap_u64]
  have e1 : ((c.toNat % 128 : Nat) : Int) % 18446744073709551616 * 2 ^ (7 * i) % 18446744073709551616 = ((c.toNat % 128 * 128 ^ i : Nat) : Int) := by
    have e : (2 : Int) ^ (7 * i) = ((128 ^ i : Nat) : Int) := by rw [← pow128]; simp
    rw [e, show ((c.toNat % 128 : Nat) : Int) % 18446744073709551616 = ((c.toNat % 128 : Nat) : Int) by omega, ← Int.natCast_mul]
    omega
  rw [e1, u64_or_nat _ _ hul hlt, Nat.or_comm, nat_join (7 * i) _ _ (by rw [pow128]; exact Nat.mul_mod_left ..) (by rw [pow128]; exact hu)]
  omega

theorem take_low (A : Option Addr) (n c : Nat) (p : Int) (r : Value) (w : World) (hp : p < 0 ∨ (n : Int) < p) :
    Calls Try.prog 52 #[.slice A n c, .int .i64 p, r] w fun e w' => e = .returned (.tuple #[.int .u64 0, .int .i64 p, .int .i64 2]) ∧ w = w' := by
  by_cases h : p < 0
  · go_enter Try.func52, Try.ntmps52
    go_wp2
    go_ret3
    exact ⟨rfl, rfl⟩
  · have h2 : (n : Int) < p := by omega
    go_enter Try.func52, Try.ntmps52
    go_wp2
    go_ret3
    exact ⟨rfl, rfl⟩

theorem tk_cons (most last i u : Nat) (c : UInt8) (r : List UInt8) : tk most last i u (c :: r) =
    if i + 1 = most ∧ last < c.toNat then (0, 0, 11) else if c.toNat = 0 ∧ 0 < i then (0, 0, 11)
    else if c.toNat < 128 then (u + c.toNat % 128 * 128 ^ i, i + 1, 0) else tk most last (i + 1) (u + c.toNat % 128 * 128 ^ i) r := rfl
theorem drop_at {L : List UInt8} {j : Nat} {x : UInt8} (h : L[j]? = some x) : L.drop j = x :: L.drop (j + 1) := by
  obtain ⟨hj, rfl⟩ := List.getElem?_eq_some_iff.1 h
  exact List.drop_eq_getElem_cons hj

/-- what the loop has: so many bytes taken, the reader as it stands, and that the rest gives the answer of the whole -/
def TakeRel (most last g : Nat) (L : List UInt8) (w : World) (j u : Nat) (wr : World) : Prop :=
  Rdr wr g u (7 * (j : Int)) most last j ∧ u < 128 ^ j ∧ j + 1 ≤ most ∧ tk most last j u (L.drop j) = tk most last 0 0 L ∧ Below g w wr
theorem takeRel_step {most last g : Nat} {L : List UInt8} {w w1 wr : World} {j u : Nat} {x : UInt8} (h : TakeRel most last g L w j u wr) (hx : L[j]? = some x) (hmm : most ≤ 9 ∨ most = 10 ∧ last ≤ 1)
    (h1 : ¬ (j + 1 = most ∧ last < x.toNat)) (hl : last < 128) (h2 : ¬ (x.toNat = 0 ∧ 0 < j)) (h3 : ¬ x.toNat < 128) (hr : Rdr w1 g (addU u (7 * (j : Int)) x.toNat) (7 * (j : Int) + 7) most last ((j : Int) + 1)) (hb : Below g wr w1) :
    TakeRel most last g L w (j + 1) (u + x.toNat % 128 * 128 ^ j) w1 := by
  obtain ⟨_, hu, hj, ht, hb0⟩ := h
  have hj9 : j ≤ 8 ∨ j = 9 ∧ x.toNat ≤ 1 := by omega
  rw [addU_val hu hj9] at hr
  refine ⟨by simpa [Int.mul_add] using hr, ?_, by omega, ?_, hb0.trans hb⟩
  · have h4 : x.toNat % 128 ≤ 127 := by omega
    have := Nat.mul_le_mul_right (128 ^ j) h4
    rw [Nat.pow_succ]; omega
  · rw [← ht, drop_at hx, tk_cons, if_neg h1, if_neg h2, if_neg h3]
theorem takeRel_done {most last g : Nat} {L : List UInt8} {w wr : World} {j u : Nat} {x : UInt8} (h : TakeRel most last g L w j u wr) (hx : L[j]? = some x)
    (h1 : ¬ (j + 1 = most ∧ last < x.toNat)) (h2 : ¬ (x.toNat = 0 ∧ 0 < j)) (h3 : x.toNat < 128) : tk most last 0 0 L = (u + x.toNat % 128 * 128 ^ j, j + 1, 0) := by
  rw [← h.2.2.2.1, drop_at hx, tk_cons, if_neg h1, if_neg h2, if_pos h3]
theorem takeRel_form {most last g : Nat} {L : List UInt8} {w wr : World} {j u : Nat} {x : UInt8} (h : TakeRel most last g L w j u wr) (hx : L[j]? = some x)
    (h1 : (j + 1 = most ∧ last < x.toNat) ∨ (x.toNat = 0 ∧ 0 < j)) : tk most last 0 0 L = (0, 0, 11) := by
  rw [← h.2.2.2.1, drop_at hx, tk_cons]
  by_cases h2 : j + 1 = most ∧ last < x.toNat
  · rw [if_pos h2]
  · rw [if_neg h2, if_pos (by omega)]
theorem takeRel_short {most last g : Nat} {L : List UInt8} {w wr : World} {j u : Nat} (h : TakeRel most last g L w j u wr) (hj : L.length ≤ j) : tk most last 0 0 L = (0, 0, 10) := by
  rw [← h.2.2.2.1, List.drop_of_length_le hj]; rfl

theorem take_any (A : Option Addr) (n c p g B : Nat) (xs : List UInt8) (most last : Nat) (w : World) (hr : Rd w B A n xs) (hB : B ≤ g) (hp : p ≤ n) (hnc : n ≤ c) (hn : n ≤ 1000000000)
    (hg : Rdr w g 0 0 most last 0) (hm1 : 1 ≤ most) (hm : most ≤ 9 ∨ most = 10 ∧ last ≤ 1) (hlast : last < 128) :
    Calls Try.prog 52 #[.slice A n c, .int .i64 p, .pointer (some ⟨g, 0, none⟩)] w fun e w' =>
      e = .returned (.tuple #[.int .u64 (tk most last 0 0 (xs.drop p)).1, .int .i64 ((p : Int) + (tk most last 0 0 (xs.drop p)).2.1), .int .i64 (tk most last 0 0 (xs.drop p)).2.2]) ∧ Below g w w' := by
  have hmf : ∀ (fn : Fn) (first cap : Array Value) (w : World), (Instr.makeFunc fn first cap).run Try.prog w = .ok (.func fn first cap) w := fun _ _ _ _ => rfl
  obtain ⟨L, hLx⟩ : ∃ L, L = xs.drop p := ⟨_, rfl⟩
  rw [← hLx]
  have HL := Lib.hid hLx
  clear hLx
  go_enter Try.func52, Try.ntmps52
  go_wp2_with (with_reducible refine wpl_cut rfl rfl rfl hr hp hnc ?_; intro A1 hr1)
  rw [← HL.out] at hr1
  have hL := hr1.len
  clear hmf
  go_loopw [29] (fun i wr => ∃ (j u : Nat), i = .int .i64 j ∧ j ≤ n - p ∧ TakeRel most last g L w j u wr) (fun i _ => n - p - (intOf i).toNat)
  case atStart => exact ⟨0, 0, rfl, Nat.zero_le _, by simpa using hg, by simp, by omega, rfl, Below.refl _ _⟩
  case round =>
    obtain ⟨j, u, rfl, hj, hrel⟩ := hrel
    by_cases hlt : j < n - p
    · obtain ⟨g1, o1, x, hA1, hg1, hx, hc⟩ := (hr1.below' hrel.2.2.2.2 hB).at_ hlt
      subst hA1
      have hx255 := x.toNat_lt
      have hj1 := hrel.2.2.1
      by_cases hf : (j + 1 = most ∧ last < x.toNat) ∨ (x.toNat = 0 ∧ 0 < j)
      · have hT := Lib.hid (takeRel_form hrel hx hf)
        go_wp2_with fail
        have hcall : Calls Try.prog 79 #[.pointer (some ⟨g, 0, none⟩), .int .u8 (x.toNat : Int)] wr fun e w' => e = .returned (.tuple #[.bool false, .int .i64 11]) ∧ Below g wr w' := by
          by_cases h1 : j + 1 = most ∧ last < x.toNat
          · exact feed_form1 wr g _ _ _ _ _ _ hrel.1 (by omega) (by omega) (by omega) (by omega)
          · have h0 : x.toNat = 0 := by omega
            rw [h0]
            exact feed_form0 wr g _ _ _ _ _ hrel.1 (by omega) (by omega) (by omega)
        refine hcall.mono ?_
        rintro e w1 ⟨rfl, hb1⟩
        go_wp2_with fail
        go_ret3
        refine ⟨?_, hrel.2.2.2.2.trans hb1⟩
        rw [hT.out]; simp
      · have hcall := feed_ok wr g _ _ _ _ _ (x.toNat : Int) hrel.1 (by omega) (by omega) (by omega) (by omega) (by omega) (by omega) (by omega) (by omega)
        by_cases h3 : x.toNat < 128
        · have hT := Lib.hid (takeRel_done hrel hx (fun h => hf (.inl h)) (fun h => hf (.inr h)) h3)
          have hd : decide ((x.toNat : Int) < 128) = true := by simp; omega
          have hu := hrel.2.1
          have hv := addU_val hu (c := x) (by omega)
          rw [hd, hv] at hcall
          have hC := Lib.hid hcall
          clear hcall hv hu hd
          go_wp2_with fail
          refine hC.out.mono ?_
          rintro e w1 ⟨rfl, hr2, hb1⟩
          have hc0 := hr2.cells.1
          go_wp2_with fail
          go_ret3
          refine ⟨?_, hrel.2.2.2.2.trans hb1⟩
          rw [hT.out]; simp; omega
        · have hd : decide ((x.toNat : Int) < 128) = false := by simp; omega
          rw [hd] at hcall
          have hC := Lib.hid hcall
          clear hcall hd
          go_wp2_with fail
          refine hC.out.mono ?_
          rintro e w1 ⟨rfl, hr2, hb1⟩
          have hs := takeRel_step hrel hx hm (fun h => hf (.inl h)) hlast (fun h => hf (.inr h)) h3 hr2 hb1
          clear hr2
          go_wp2_with fail
          go_roundw
          case rel => exact ⟨j + 1, _, by go_num, by omega, hs⟩
          case measure => simp [intOf]; omega
    · have hT := Lib.hid (takeRel_short hrel (by omega))
      go_wp2_with fail
      go_ret3
      refine ⟨?_, hrel.2.2.2.2⟩
      rw [hT.out]; simp
end Go.Proofs.Ytodgnlhakafhoaa.Vr
