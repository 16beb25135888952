/- The layer varint: what its functions compute. -/
import Derived.Test.YtodgnlhakafhoaaMem
import Derived.Test.YtodgnlhakafhoaaZig
namespace Go.Proofs.Ytodgnlhakafhoaa.Vr
open Go.ChangeShapes Go.WideShapes Go.ChangeAt Go.RowKit
open Num Zg Mem

/-- a number without a sign as bytes -/
def vput (u : Nat) : List UInt8 := if h : u < 128 then [UInt8.ofNat u] else UInt8.ofNat (u % 128 + 128) :: vput (u / 128)
termination_by u
decreasing_by omega
theorem vput_small {u : Nat} (h : u < 128) : vput u = [UInt8.ofNat u] := by rw [vput]; simp [h]
theorem vput_big {u : Nat} (h : 128 ≤ u) : vput u = UInt8.ofNat (u % 128 + 128) :: vput (u / 128) := by rw [vput]; simp [show ¬ u < 128 by omega]
theorem vput_length : ∀ (k u : Nat), parts u ≤ k → (vput u).length = parts u := by
  intro k
  induction k with
  | zero => intro u h; have := parts_pos u; omega
  | succ k ih =>
    intro u h
    by_cases hu : u < 128
    · rw [vput_small hu, parts_small hu]; rfl
    · have hs := parts_step (u := u) (by omega)
      rw [vput_big (by omega), List.length_cons, ih (u / 128) (by omega), hs]
theorem vput_len (u : Nat) : (vput u).length = parts u := vput_length _ u (Nat.le_refl _)

/-- the loop of 'Put': what is put so far, and what is left, is the whole -/
def PutRel (xs : List UInt8) (u0 : Nat) (ys : List UInt8) (u : Nat) : Prop := ys ++ vput u = xs ++ vput u0 ∧ u ≤ u0
theorem putRel_step {xs ys : List UInt8} {u0 u : Nat} (h : PutRel xs u0 ys u) (hu : 128 ≤ u) : PutRel xs u0 (ys ++ [UInt8.ofNat (u % 128 + 128)]) (u / 128) := by
  obtain ⟨h1, h2⟩ := h
  refine ⟨?_, by omega⟩
  rw [← h1, vput_big hu]; simp
theorem putRel_end {xs ys : List UInt8} {u0 u : Nat} (h : PutRel xs u0 ys u) (hu : u < 128) : ys ++ [UInt8.ofNat u] = xs ++ vput u0 := by
  rw [← h.1, vput_small hu]
theorem putRel_len {xs ys : List UInt8} {u0 u : Nat} (h : PutRel xs u0 ys u) (hu : u0 < 18446744073709551616) : ys.length ≤ xs.length + 9 := by
  have h1 := congrArg List.length h.1
  simp only [List.length_append, vput_len] at h1
  have := parts_le hu
  have := parts_pos u
  omega

theorem or128 (u : Nat) : bits BinOp.or IntKind.u8 ((u : Int) % 256) 128 = ((UInt8.ofNat (u % 128 + 128)).toNat : Int) := by
  have h := u8_or_nat (u % 256) 128 (by omega) (by omega)
  have e : u % 256 ||| 128 = u % 128 + 128 := by
    have h1 : u % 256 = u % 128 + u / 128 % 2 * 128 := by omega
    have h3 := nat_join 7 128 (u % 128) (by omega) (by omega)
    rcases (show u / 128 % 2 = 0 ∨ u / 128 % 2 = 1 by omega) with h2 | h2
    · rw [h1, h2, Nat.or_comm]; simpa [Nat.add_comm] using h3
    · rw [h1, h2, Nat.or_comm]
      have h4 := nat_join 7 128 (u % 128) (by omega) (by omega)
      have h5 : u % 128 + 1 * 128 = 128 ||| u % 128 := by rw [h4]; omega
      rw [h5, ← Nat.or_assoc, Nat.or_self, h4]
  rw [e] at h
  rw [UInt8.toNat_ofNat']
  rw [show (u % 128 + 128) % 2 ^ 8 = u % 128 + 128 by omega]
  simpa using h

set_option maxRecDepth 100000 in
theorem put_any (n : Int) (h1 : -9223372036854775808 ≤ n) (h2 : n ≤ 9223372036854775807) (A : Option Addr) (k c : Nat) (xs : List UInt8) (base : Nat) (w : World)
    (hown : Own w base A k c xs) (hbase : base ≤ w.heap.size) (hk : k ≤ 1000000000) :
    Calls Try.prog 20 #[.slice A k c, .int .i64 n] w fun e w' => ∃ A' c', e = .returned (.slice A' (k + parts (zig n).toNat) c') ∧
      Own w' base A' (k + parts (zig n).toNat) c' (xs ++ vput (zig n).toNat) ∧ Below base w w' := by
  have h3 := zig_nonneg n
  have h4 := zig_le n h1 h2
  obtain ⟨u, hu⟩ := Int.eq_ofNat_of_zero_le h3
  have Hu := Lib.hid hu
  have hu2 : u < 18446744073709551616 := by omega
  clear hu h3 h4
  go_enter Try.func20, Try.ntmps20
  go_wp2_with fail
  refine (zig_any n h1 h2 _).mono ?_
  rintro e w' ⟨rfl, rfl⟩
  rw [Hu.out]
  go_wp2_with fail
  go_loopw [0, 5] (fun b v wr => ∃ (ys : List UInt8) (q m d : Nat) (A1 : Option Addr), PutRel xs u ys q ∧ v = .int .u64 q ∧ b = .slice A1 m d ∧ Own wr base A1 m d ys ∧ Below base w wr)
    (fun _ v _ => (intOf v).toNat)
  case atStart => exact ⟨xs, u, k, c, A, ⟨rfl, Nat.le_refl _⟩, rfl, rfl, hown, Below.refl _ _⟩
  case round =>
    obtain ⟨ys, q, m, d, A1, hr, rfl, rfl, ho, hb⟩ := hrel
    have hl := putRel_len hr hu2
    have hl2 := ho.len
    have hl3 := hown.len
    have hqu := hr.2
    have hsz := hb.size
    have hm : m ≤ 1000000009 := by omega
    clear hl hl2 hl3
    by_cases hq : 128 ≤ q
    · have hs := putRel_step hr hq
      have ho8 := or128 q
      generalize UInt8.ofNat (q % 128 + 128) = x at hs ho8
      go_wp2_with (at_builtin; refine wpl_app rfl rfl (ho.alloc _) rfl (rd_one _ x) (by omega) (by simp; omega) ?_; intro A2 c2 w2 hown2 hb2)
      go_roundw
      case rel => exact ⟨_, q / 128, m + 1, c2, A2, hs, by go_num, rfl, hown2, (hb.alloc (by omega) _).trans hb2⟩
      case measure => simp [intOf]; omega
    · have hx : ((q : Int)) = ((UInt8.ofNat q).toNat : Int) := by
        rw [UInt8.toNat_ofNat']; omega
      have HX := Lib.hid hx
      clear hx
      have he := putRel_end hr (by omega)
      have hel := congrArg List.length he
      simp only [List.length_append, vput_len, List.length_singleton, ho.len, hown.len] at hel
      have HE := Lib.hid he
      have HEL := Lib.hid hel
      clear he hel
      go_wp2_with (at_builtin; refine wpl_app rfl rfl (ho.alloc _) rfl (rd_val _ (UInt8.ofNat q) _ HX.out) (by omega) (by simp; omega) ?_; intro A2 c2 w2 hown2 hb2)
      go_ret
      rw [HE.out, HEL.out] at hown2
      rw [Hu.out, HEL.out, Int.toNat_natCast]
      exact ⟨A2, c2, rfl, hown2, (hb.alloc (by omega) _).trans hb2⟩
set_option maxRecDepth 100000 in
theorem refput_any (n : Int) (h1 : -9223372036854775808 ≤ n) (h2 : n ≤ 9223372036854775807) (base : Nat) (w : World) (hbase : base ≤ w.heap.size) :
    Calls Try.prog 21 #[.int .i64 n] w fun e w' => ∃ A' c', e = .returned (.slice A' (parts (zig n).toNat) c') ∧
      Own w' base A' (parts (zig n).toNat) c' (vput (zig n).toNat) ∧ Below base w w' := by
  have h3 := zig_nonneg n
  have h4 := zig_le n h1 h2
  obtain ⟨u, hu⟩ := Int.eq_ofNat_of_zero_le h3
  have Hu := Lib.hid hu
  have hu2 : u < 18446744073709551616 := by omega
  clear hu h3 h4
  go_enter Try.func21, Try.ntmps21
  go_wp2_with fail
  refine (refzig_any n h1 h2 _).mono ?_
  rintro e w' ⟨rfl, rfl⟩
  rw [Hu.out]
  go_wp2_with fail
  go_loopw [3, 4, 5] (fun v b i wr => ∃ (ys : List UInt8) (q m d : Nat) (A1 : Option Addr), PutRel [] u ys q ∧ v = .int .u64 q ∧ b = .slice A1 m d ∧ i = .int .i64 ((m : Int) + 1) ∧ Own wr base A1 m d ys ∧ Below base w wr)
    (fun v _ _ _ => (intOf v).toNat)
  case atStart => exact ⟨[], u, 0, 0, none, ⟨rfl, Nat.le_refl _⟩, rfl, rfl, rfl, Own.nil _ _, Below.refl _ _⟩
  case round =>
    obtain ⟨ys, q, m, d, A1, hr, rfl, rfl, rfl, ho, hb⟩ := hrel
    have hl := putRel_len hr hu2
    have hl2 := ho.len
    have hqu := hr.2
    have hsz := hb.size
    have hp := congrArg List.length hr.1
    simp only [List.length_append, vput_len, List.length_nil, hl2] at hp
    have hp2 := parts_pos q
    have hm : m ≤ 9 := by simp at hl; omega
    clear hl hl2
    by_cases hq : 128 ≤ q
    · have hs := putRel_step hr hq
      have hlt : m + 1 < parts u := by have := parts_step hq; have := parts_pos (q / 128); omega
      have hx : (((q % 128 + 128 : Nat) : Int)) = ((UInt8.ofNat (q % 128 + 128)).toNat : Int) := by
        rw [UInt8.toNat_ofNat']; omega
      generalize UInt8.ofNat (q % 128 + 128) = x at hs hx
      have HX := Lib.hid hx
      have HP := Lib.hid hp
      clear hx hp
      go_wp2_with fail
      refine (refwidth_any n h1 h2 _).mono ?_
      rintro e w' ⟨rfl, rfl⟩
      rw [Hu.out, Int.toNat_natCast]
      go_wp2_with (at_builtin; refine wpl_app rfl rfl (ho.alloc _) rfl (rd_val _ x _ (by have := HX.out; omega)) (by omega) (by simp; omega) ?_; intro A2 c2 w2 hown2 hb2)
      go_roundw
      case rel => exact ⟨_, q / 128, m + 1, c2, A2, hs, by go_num, rfl, by go_num, hown2, (hb.alloc (by omega) _).trans hb2⟩
      case measure => simp [intOf]; omega
    · have hge : ¬ m + 1 < parts u := by have := parts_small (u := q) (by omega); omega
      have hx : ((q : Int)) = ((UInt8.ofNat q).toNat : Int) := by
        rw [UInt8.toNat_ofNat']; omega
      have HX := Lib.hid hx
      clear hx
      have he := putRel_end hr (by omega)
      have hel : m + 1 = parts u := by have := parts_small (u := q) (by omega); omega
      have HE := Lib.hid he
      have HEL := Lib.hid hel
      clear he hel hp
      go_wp2_with fail
      refine (refwidth_any n h1 h2 _).mono ?_
      rintro e w' ⟨rfl, rfl⟩
      rw [Hu.out, Int.toNat_natCast]
      go_wp2_with (at_builtin; refine wpl_app rfl rfl (ho.alloc _) rfl (rd_val _ (UInt8.ofNat q) _ HX.out) (by omega) (by simp; omega) ?_; intro A2 c2 w2 hown2 hb2)
      go_ret
      rw [HE.out, HEL.out] at hown2
      rw [Hu.out, HEL.out, Int.toNat_natCast]
      exact ⟨A2, c2, rfl, hown2, (hb.alloc (by omega) _).trans hb2⟩

theorem size_any (n : Int) (h1 : -9223372036854775808 ≤ n) (h2 : n ≤ 9223372036854775807) (w : World) :
    Calls Try.prog 22 #[.int .i64 n] w fun e w' => e = .returned (.int .i64 (parts (zig n).toNat)) ∧ w = w' := by
  go_enter Try.func22, Try.ntmps22
  go_wp2_with fail
  refine (width_any n h1 h2 _).mono ?_
  rintro e w' ⟨rfl, rfl⟩
  go_wp2_with fail
  go_ret
  exact ⟨rfl, rfl⟩
end Go.Proofs.Ytodgnlhakafhoaa.Vr
