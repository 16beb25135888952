/- The layer utf: plain laws on what is taken; no program here. -/
import Derived.Test.YtodgnlhakafhoaaUtfP
namespace Go.Proofs.Ytodgnlhakafhoaa.Ut
open Num Mem

def ufst (a : Nat) : Nat × Nat := if a < 128 then (1, a) else if a < 194 then (0, 0) else if a < 224 then (2, a % 32) else if a < 240 then (3, a % 16) else if a < 245 then (4, a % 8) else (0, 0)
def usec (a b : Nat) : Bool := decide ((if a = 224 then 160 else if a = 240 then 144 else 128) ≤ b) && decide (b ≤ (if a = 237 then 159 else if a = 244 then 143 else 191))
theorem usec_iff (a b : Nat) : usec a b = true ↔ 128 ≤ b ∧ b ≤ 191 ∧ (a = 224 → 160 ≤ b) ∧ (a = 240 → 144 ≤ b) ∧ (a = 237 → b ≤ 159) ∧ (a = 244 → b ≤ 143) := by
  unfold usec
  simp only [Bool.and_eq_true, decide_eq_true_eq]
  repeat' split
  all_goals omega

/-- the loop: how many are to come, the place, what stands ahead -/
def uc (a n : Nat) : Nat → Nat → Nat → List UInt8 → Nat × Nat × Nat
  | 0, _, c, _ => (c, n, 0)
  | _ + 1, _, _, [] => (0, 0, 10)
  | m + 1, i, c, x :: r => if x.toNat / 64 ≠ 2 ∨ (i = 1 ∧ usec a x.toNat = false) then (0, 0, 11) else uc a n m (i + 1) (c * 64 + x.toNat % 64) r
def utk : List UInt8 → Nat × Nat × Nat
  | [] => (0, 0, 10)
  | a :: r => if (ufst a.toNat).1 = 0 then (0, 0, 11) else uc a.toNat (ufst a.toNat).1 ((ufst a.toNat).1 - 1) 1 (ufst a.toNat).2 r

theorem uc_zero (a n i c : Nat) (L : List UInt8) : uc a n 0 i c L = (c, n, 0) := by unfold uc; rfl
theorem uc_nil (a n m i c : Nat) : uc a n (m + 1) i c [] = (0, 0, 10) := rfl
theorem uc_cons (a n m i c : Nat) (x : UInt8) (r : List UInt8) : uc a n (m + 1) i c (x :: r) = if x.toNat / 64 ≠ 2 ∨ (i = 1 ∧ usec a x.toNat = false) then (0, 0, 11) else uc a n m (i + 1) (c * 64 + x.toNat % 64) r := rfl
theorem utk_cons (a : UInt8) (r : List UInt8) : utk (a :: r) = if (ufst a.toNat).1 = 0 then (0, 0, 11) else uc a.toNat (ufst a.toNat).1 ((ufst a.toNat).1 - 1) 1 (ufst a.toNat).2 r := rfl

theorem ufst_1 {a : Nat} (h : a < 128) : ufst a = (1, a) := by unfold ufst; rw [if_pos h]
theorem ufst_0 {a : Nat} (h : 128 ≤ a) (h' : a < 194) : ufst a = (0, 0) := by unfold ufst; rw [if_neg (by omega), if_pos h']
theorem ufst_2 {a : Nat} (h : 194 ≤ a) (h' : a < 224) : ufst a = (2, a % 32) := by unfold ufst; rw [if_neg (by omega), if_neg (by omega), if_pos h']
theorem ufst_3 {a : Nat} (h : 224 ≤ a) (h' : a < 240) : ufst a = (3, a % 16) := by unfold ufst; rw [if_neg (by omega), if_neg (by omega), if_neg (by omega), if_pos h']
theorem ufst_4 {a : Nat} (h : 240 ≤ a) (h' : a < 245) : ufst a = (4, a % 8) := by unfold ufst; rw [if_neg (by omega), if_neg (by omega), if_neg (by omega), if_neg (by omega), if_pos h']
theorem ufst_5 {a : Nat} (h : 245 ≤ a) : ufst a = (0, 0) := by unfold ufst; rw [if_neg (by omega), if_neg (by omega), if_neg (by omega), if_neg (by omega), if_neg (by omega)]

theorem utk_1 {a : UInt8} (h : a.toNat < 128) (r : List UInt8) : utk (a :: r) = (a.toNat, 1, 0) := by
  rw [utk_cons, ufst_1 h]; rfl
theorem utk_2 {a x : UInt8} (h : 194 ≤ a.toNat) (h' : a.toNat < 224) (hx : 128 ≤ x.toNat) (hx' : x.toNat < 192) (r : List UInt8) : utk (a :: x :: r) = (a.toNat % 32 * 64 + x.toNat % 64, 2, 0) := by
  have hs : usec a.toNat x.toNat = true := (usec_iff _ _).2 (by omega)
  rw [utk_cons, ufst_2 h h', if_neg (by simp)]
  show uc _ _ 1 _ _ _ = _
  rw [uc_cons, if_neg (by rw [hs]; simp; omega), uc_zero]
theorem utk_3 {a x y : UInt8} (h : 224 ≤ a.toNat) (h' : a.toNat < 240) (hx : usec a.toNat x.toNat = true) (hy : 128 ≤ y.toNat) (hy' : y.toNat < 192) (r : List UInt8) :
    utk (a :: x :: y :: r) = ((a.toNat % 16 * 64 + x.toNat % 64) * 64 + y.toNat % 64, 3, 0) := by
  have hs := (usec_iff _ _).1 hx
  rw [utk_cons, ufst_3 h h', if_neg (by simp)]
  show uc _ _ 2 _ _ _ = _
  rw [uc_cons, if_neg (by rw [hx]; simp; omega), uc_cons, if_neg (by simp; omega), uc_zero]
theorem utk_4 {a x y z : UInt8} (h : 240 ≤ a.toNat) (h' : a.toNat < 245) (hx : usec a.toNat x.toNat = true) (hy : 128 ≤ y.toNat) (hy' : y.toNat < 192) (hz : 128 ≤ z.toNat) (hz' : z.toNat < 192) (r : List UInt8) :
    utk (a :: x :: y :: z :: r) = (((a.toNat % 8 * 64 + x.toNat % 64) * 64 + y.toNat % 64) * 64 + z.toNat % 64, 4, 0) := by
  have hs := (usec_iff _ _).1 hx
  rw [utk_cons, ufst_4 h h', if_neg (by simp)]
  show uc _ _ 3 _ _ _ = _
  rw [uc_cons, if_neg (by rw [hx]; simp; omega), uc_cons, if_neg (by simp; omega), uc_cons, if_neg (by simp; omega), uc_zero]
theorem utk_s1 {a : UInt8} (h : 194 ≤ a.toNat) (h' : a.toNat < 245) : utk [a] = (0, 0, 10) := by
  rw [utk_cons]
  rcases (show a.toNat < 224 ∨ (224 ≤ a.toNat ∧ a.toNat < 240) ∨ 240 ≤ a.toNat by omega) with h2 | ⟨h2, h3⟩ | h2
  · rw [ufst_2 h h2]; rfl
  · rw [ufst_3 h2 h3]; rfl
  · rw [ufst_4 h2 h']; rfl
theorem utk_s2 {a x : UInt8} (h : 224 ≤ a.toNat) (h' : a.toNat < 245) (hx : usec a.toNat x.toNat = true) : utk [a, x] = (0, 0, 10) := by
  have hs := (usec_iff _ _).1 hx
  rw [utk_cons]
  rcases (show a.toNat < 240 ∨ 240 ≤ a.toNat by omega) with h2 | h2
  · rw [ufst_3 h h2, if_neg (by simp)]
    show uc _ _ 2 _ _ _ = _
    rw [uc_cons, if_neg (by rw [hx]; simp; omega)]; rfl
  · rw [ufst_4 h2 h', if_neg (by simp)]
    show uc _ _ 3 _ _ _ = _
    rw [uc_cons, if_neg (by rw [hx]; simp; omega)]; rfl
theorem utk_s3 {a x y : UInt8} (h : 240 ≤ a.toNat) (h' : a.toNat < 245) (hx : usec a.toNat x.toNat = true) (hy : 128 ≤ y.toNat) (hy' : y.toNat < 192) : utk [a, x, y] = (0, 0, 10) := by
  have hs := (usec_iff _ _).1 hx
  rw [utk_cons, ufst_4 h h', if_neg (by simp)]
  show uc _ _ 3 _ _ _ = _
  rw [uc_cons, if_neg (by rw [hx]; simp; omega), uc_cons, if_neg (by simp; omega)]; rfl

/-- what bytes may begin with -/
inductive UInv : List UInt8 → Prop
  | s0 : UInv []
  | s1 (a : UInt8) (h : 194 ≤ a.toNat) (h' : a.toNat < 245) : UInv [a]
  | s2 (a x : UInt8) (h : 224 ≤ a.toNat) (h' : a.toNat < 245) (hx : usec a.toNat x.toNat = true) : UInv [a, x]
  | s3 (a x y : UInt8) (h : 240 ≤ a.toNat) (h' : a.toNat < 245) (hx : usec a.toNat x.toNat = true) (hy : 128 ≤ y.toNat) (hy' : y.toNat < 192) : UInv [a, x, y]
  | bad (L : List UInt8) (h : utk L = (0, 0, 11)) : UInv L
  | o1 (a : UInt8) (r : List UInt8) (h : a.toNat < 128) : UInv (a :: r)
  | o2 (a x : UInt8) (r : List UInt8) (h : 194 ≤ a.toNat) (h' : a.toNat < 224) (hx : 128 ≤ x.toNat) (hx' : x.toNat < 192) : UInv (a :: x :: r)
  | o3 (a x y : UInt8) (r : List UInt8) (h : 224 ≤ a.toNat) (h' : a.toNat < 240) (hx : usec a.toNat x.toNat = true) (hy : 128 ≤ y.toNat) (hy' : y.toNat < 192) : UInv (a :: x :: y :: r)
  | o4 (a x y z : UInt8) (r : List UInt8) (h : 240 ≤ a.toNat) (h' : a.toNat < 245) (hx : usec a.toNat x.toNat = true) (hy : 128 ≤ y.toNat) (hy' : y.toNat < 192) (hz : 128 ≤ z.toNat) (hz' : z.toNat < 192) : UInv (a :: x :: y :: z :: r)

theorem uinv (L : List UInt8) : UInv L := by
  match L with
  | [] => exact .s0
  | a :: r =>
    by_cases h1 : a.toNat < 128
    · exact .o1 a r h1
    by_cases h0 : a.toNat < 194
    · exact .bad _ (by rw [utk_cons, ufst_0 (by omega) h0]; rfl)
    by_cases h5 : 245 ≤ a.toNat
    · exact .bad _ (by rw [utk_cons, ufst_5 h5]; rfl)
    match r with
    | [] => exact .s1 a (by omega) (by omega)
    | x :: r =>
      by_cases hx : usec a.toNat x.toNat = true
      · have hs := (usec_iff _ _).1 hx
        by_cases h2 : a.toNat < 224
        · exact .o2 a x r (by omega) h2 (by omega) (by omega)
        match r with
        | [] => exact .s2 a x (by omega) (by omega) hx
        | y :: r =>
          by_cases hy : 128 ≤ y.toNat ∧ y.toNat < 192
          · by_cases h3 : a.toNat < 240
            · exact .o3 a x y r (by omega) h3 hx hy.1 hy.2
            match r with
            | [] => exact .s3 a x y (by omega) (by omega) hx hy.1 hy.2
            | z :: r =>
              by_cases hz : 128 ≤ z.toNat ∧ z.toNat < 192
              · exact .o4 a x y z r (by omega) (by omega) hx hy.1 hy.2 hz.1 hz.2
              · refine .bad _ ?_
                rw [utk_cons, ufst_4 (by omega) (by omega), if_neg (by simp)]
                show uc _ _ 3 _ _ _ = _
                rw [uc_cons, if_neg (by rw [hx]; simp; omega), uc_cons, if_neg (by simp; omega), uc_cons, if_pos (by left; omega)]
          · refine .bad _ ?_
            rw [utk_cons]
            by_cases h3 : a.toNat < 240
            · rw [ufst_3 (by omega) h3, if_neg (by simp)]
              show uc _ _ 2 _ _ _ = _
              rw [uc_cons, if_neg (by rw [hx]; simp; omega), uc_cons, if_pos (by left; omega)]
            · rw [ufst_4 (by omega) (by omega), if_neg (by simp)]
              show uc _ _ 3 _ _ _ = _
              rw [uc_cons, if_neg (by rw [hx]; simp; omega), uc_cons, if_pos (by left; omega)]
      · have hx' : usec a.toNat x.toNat = false := by simpa using hx
        refine .bad _ ?_
        rw [utk_cons]
        rcases (show a.toNat < 224 ∨ (224 ≤ a.toNat ∧ a.toNat < 240) ∨ 240 ≤ a.toNat by omega) with h2 | ⟨h2, h3⟩ | h2
        · rw [ufst_2 (by omega) h2, if_neg (by simp)]
          show uc _ _ 1 _ _ _ = _
          rw [uc_cons, if_pos (.inr ⟨rfl, hx'⟩)]
        · rw [ufst_3 h2 h3, if_neg (by simp)]
          show uc _ _ 2 _ _ _ = _
          rw [uc_cons, if_pos (.inr ⟨rfl, hx'⟩)]
        · rw [ufst_4 h2 (by omega), if_neg (by simp)]
          show uc _ _ 3 _ _ _ = _
          rw [uc_cons, if_pos (.inr ⟨rfl, hx'⟩)]

theorem ofNat_of {x : UInt8} {n : Nat} (h : n = x.toNat) : UInt8.ofNat n = x := by subst h; simp

theorem uput_len (c : Nat) : 1 ≤ (uput c).length ∧ (uput c).length ≤ 4 := by
  unfold uput
  repeat' split
  all_goals simp

/-- what is taken is a character, and its bytes stand there -/
theorem utk_ok {L : List UInt8} (h : (utk L).2.2 = 0) : isCh (utk L).1 = true ∧ (utk L).1 ≤ 1114111 ∧ uput (utk L).1 ++ L.drop (utk L).2.1 = L ∧ (utk L).2.1 = (uput (utk L).1).length := by
  cases uinv L with
  | s0 => cases h
  | s1 a h1 h2 => rw [utk_s1 h1 h2] at h; cases h
  | s2 a x h1 h2 hx => rw [utk_s2 h1 h2 hx] at h; cases h
  | s3 a x y h1 h2 hx h3 h4 => rw [utk_s3 h1 h2 hx h3 h4] at h; cases h
  | bad _ hb => rw [hb] at h; cases h
  | o1 a r h1 =>
    rw [utk_1 h1]
    simp only []
    refine ⟨(isCh_iff _).2 (by omega), by omega, ?_, ?_⟩
    · unfold uput; rw [if_pos h1]; simp
    · unfold uput; rw [if_pos h1]; rfl
  | o2 a x r h1 h2 h3 h4 =>
    rw [utk_2 h1 h2 h3 h4]
    simp only []
    have hu : uput (a.toNat % 32 * 64 + x.toNat % 64) = [a, x] := by
      unfold uput
      rw [if_neg (by omega), if_pos (by omega), ofNat_of (x := a) (by omega), ofNat_of (x := x) (by omega)]
    rw [hu]
    exact ⟨(isCh_iff _).2 (by omega), by omega, rfl, rfl⟩
  | o3 a x y r h1 h2 hx h3 h4 =>
    have hs := (usec_iff _ _).1 hx
    rw [utk_3 h1 h2 hx h3 h4]
    simp only []
    have hu : uput ((a.toNat % 16 * 64 + x.toNat % 64) * 64 + y.toNat % 64) = [a, x, y] := by
      unfold uput
      rw [if_neg (by omega), if_neg (by omega), if_pos (by omega), ofNat_of (x := a) (by omega), ofNat_of (x := x) (by omega), ofNat_of (x := y) (by omega)]
    rw [hu]
    exact ⟨(isCh_iff _).2 (by omega), by omega, rfl, rfl⟩
  | o4 a x y z r h1 h2 hx h3 h4 h5 h6 =>
    have hs := (usec_iff _ _).1 hx
    rw [utk_4 h1 h2 hx h3 h4 h5 h6]
    simp only []
    have hu : uput (((a.toNat % 8 * 64 + x.toNat % 64) * 64 + y.toNat % 64) * 64 + z.toNat % 64) = [a, x, y, z] := by
      unfold uput
      rw [if_neg (by omega), if_neg (by omega), if_neg (by omega), ofNat_of (x := a) (by omega), ofNat_of (x := x) (by omega), ofNat_of (x := y) (by omega), ofNat_of (x := z) (by omega)]
    rw [hu]
    exact ⟨(isCh_iff _).2 (by omega), by omega, rfl, rfl⟩

theorem utk_err {L : List UInt8} (h : (utk L).2.2 ≠ 0) : utk L = (0, 0, 10) ∨ utk L = (0, 0, 11) := by
  cases uinv L with
  | s0 => exact .inl rfl
  | s1 a h1 h2 => exact .inl (utk_s1 h1 h2)
  | s2 a x h1 h2 hx => exact .inl (utk_s2 h1 h2 hx)
  | s3 a x y h1 h2 hx h3 h4 => exact .inl (utk_s3 h1 h2 hx h3 h4)
  | bad _ hb => exact .inr hb
  | o1 a r h1 => rw [utk_1 h1] at h; exact absurd rfl h
  | o2 a x r h1 h2 h3 h4 => rw [utk_2 h1 h2 h3 h4] at h; exact absurd rfl h
  | o3 a x y r h1 h2 hx h3 h4 => rw [utk_3 h1 h2 hx h3 h4] at h; exact absurd rfl h
  | o4 a x y z r h1 h2 hx h3 h4 h5 h6 => rw [utk_4 h1 h2 hx h3 h4 h5 h6] at h; exact absurd rfl h

/-- a character's bytes, by how many they are -/
theorem uput_inv {c : Nat} (hc : isCh c = true) :
    (∃ a, uput c = [a] ∧ a.toNat < 128 ∧ c = a.toNat) ∨
    (∃ a x, uput c = [a, x] ∧ 194 ≤ a.toNat ∧ a.toNat < 224 ∧ 128 ≤ x.toNat ∧ x.toNat < 192 ∧ c = a.toNat % 32 * 64 + x.toNat % 64) ∨
    (∃ a x y, uput c = [a, x, y] ∧ 224 ≤ a.toNat ∧ a.toNat < 240 ∧ usec a.toNat x.toNat = true ∧ 128 ≤ y.toNat ∧ y.toNat < 192 ∧ c = (a.toNat % 16 * 64 + x.toNat % 64) * 64 + y.toNat % 64) ∨
    (∃ a x y z, uput c = [a, x, y, z] ∧ 240 ≤ a.toNat ∧ a.toNat < 245 ∧ usec a.toNat x.toNat = true ∧ 128 ≤ y.toNat ∧ y.toNat < 192 ∧ 128 ≤ z.toNat ∧ z.toNat < 192 ∧
      c = ((a.toNat % 8 * 64 + x.toNat % 64) * 64 + y.toNat % 64) * 64 + z.toNat % 64) := by
  have hi := (isCh_iff c).1 hc
  have ho : ∀ n, n < 256 → (UInt8.ofNat n).toNat = n := fun n hn => by rw [UInt8.toNat_ofNat']; omega
  by_cases h1 : c < 128
  · exact .inl ⟨UInt8.ofNat c, by unfold uput; rw [if_pos h1], by rw [ho _ (by omega)]; exact h1, by rw [ho _ (by omega)]⟩
  by_cases h2 : c < 2048
  · refine .inr (.inl ⟨UInt8.ofNat (192 + c / 64), UInt8.ofNat (128 + c % 64), by unfold uput; rw [if_neg h1, if_pos h2], ?_⟩)
    rw [ho _ (by omega), ho _ (by omega)]
    omega
  by_cases h3 : c < 65536
  · refine .inr (.inr (.inl ⟨UInt8.ofNat (224 + c / 4096), UInt8.ofNat (128 + c / 64 % 64), UInt8.ofNat (128 + c % 64), by unfold uput; rw [if_neg h1, if_neg h2, if_pos h3], ?_⟩))
    rw [ho _ (by omega), ho _ (by omega), ho _ (by omega), usec_iff]
    omega
  · refine .inr (.inr (.inr ⟨UInt8.ofNat (240 + c / 262144), UInt8.ofNat (128 + c / 4096 % 64), UInt8.ofNat (128 + c / 64 % 64), UInt8.ofNat (128 + c % 64), by unfold uput; rw [if_neg h1, if_neg h2, if_neg h3], ?_⟩))
    rw [ho _ (by omega), ho _ (by omega), ho _ (by omega), ho _ (by omega), usec_iff]
    omega

/-- what is put is taken -/
theorem utk_uput {c : Nat} (hc : isCh c = true) (tail : List UInt8) : utk (uput c ++ tail) = (c, (uput c).length, 0) := by
  rcases uput_inv hc with ⟨a, hu, h1, h2⟩ | ⟨a, x, hu, h1, h2, h3, h4, h5⟩ | ⟨a, x, y, hu, h1, h2, h3, h4, h5, h6⟩ | ⟨a, x, y, z, hu, h1, h2, h3, h4, h5, h6, h7, h8⟩
  · rw [hu]; simp only [List.cons_append, List.nil_append, List.length_cons, List.length_nil]; rw [utk_1 h1, h2]
  · rw [hu]; simp only [List.cons_append, List.nil_append, List.length_cons, List.length_nil]; rw [utk_2 h1 h2 h3 h4, h5]
  · rw [hu]; simp only [List.cons_append, List.nil_append, List.length_cons, List.length_nil]; rw [utk_3 h1 h2 h3 h4 h5, h6]
  · rw [hu]; simp only [List.cons_append, List.nil_append, List.length_cons, List.length_nil]; rw [utk_4 h1 h2 h3 h4 h5 h6 h7, h8]

/-- a part of a character's bytes -/
theorem utk_part {c : Nat} (hc : isCh c = true) (k : Nat) (hk : k < (uput c).length) : utk ((uput c).take k) = (0, 0, 10) := by
  rcases uput_inv hc with ⟨a, hu, h1, h2⟩ | ⟨a, x, hu, h1, h2, h3, h4, h5⟩ | ⟨a, x, y, hu, h1, h2, h3, h4, h5, h6⟩ | ⟨a, x, y, z, hu, h1, h2, h3, h4, h5, h6, h7, h8⟩
  · rw [hu] at hk ⊢
    obtain rfl : k = 0 := by simpa using hk
    rfl
  · rw [hu] at hk ⊢
    rcases (show k = 0 ∨ k = 1 by simp at hk; omega) with rfl | rfl
    · rfl
    · exact utk_s1 h1 (by omega)
  · rw [hu] at hk ⊢
    rcases (show k = 0 ∨ k = 1 ∨ k = 2 by simp at hk; omega) with rfl | rfl | rfl
    · rfl
    · exact utk_s1 (by omega) (by omega)
    · exact utk_s2 h1 (by omega) h3
  · rw [hu] at hk ⊢
    rcases (show k = 0 ∨ k = 1 ∨ k = 2 ∨ k = 3 by simp at hk; omega) with rfl | rfl | rfl | rfl
    · rfl
    · exact utk_s1 (by omega) (by omega)
    · exact utk_s2 (by omega) (by omega) h3
    · exact utk_s3 h1 h2 h3 h4 h5

/-- the bytes that may stand behind others -/
def ufills : List (List UInt8) := [[128, 128, 128], [191, 191, 191], [160, 128, 128], [144, 128, 128], [143, 191, 191], [159, 191, 191]]
def ubegs (b f : List UInt8) : Bool := decide ((utk (b ++ f)).2.2 = 0) && decide (b.length < (utk (b ++ f)).2.1)

theorem ubegs_of {b f : List UInt8} {c n : Nat} (h : utk (b ++ f) = (c, n, 0)) (hn : b.length < n) : ubegs b f = true := by
  unfold ubegs; simp [h, hn]
theorem ubegs_short {b f : List UInt8} (h : ubegs b f = true) : utk b = (0, 0, 10) := by
  unfold ubegs at h
  simp only [Bool.and_eq_true, decide_eq_true_eq] at h
  obtain ⟨h0, h1⟩ := h
  obtain ⟨hc, _, ha, hn⟩ := utk_ok h0
  rw [hn] at h1
  have := utk_part hc b.length h1
  have e : (uput (utk (b ++ f)).1).take b.length = b := by
    have h2 := congrArg (List.take b.length) ha
    rw [List.take_append_of_le_length (by omega), List.take_append_of_le_length (by omega), List.take_length] at h2
    exact h2
  rw [e] at this
  exact this
theorem ushort_begs {b : List UInt8} (h : (utk b).2.2 = 10) : b.length < 4 ∧ (b = [] ∨ ∃ f ∈ ufills, ubegs b f = true) := by
  cases uinv b with
  | s0 => exact ⟨by simp, .inl rfl⟩
  | s1 a h1 h2 =>
    refine ⟨by simp, .inr ?_⟩
    by_cases h3 : a.toNat < 224
    · refine ⟨[128, 128, 128], by simp [ufills], ?_⟩
      exact ubegs_of (utk_2 h1 h3 (by decide) (by decide) _) (by simp)
    by_cases h4 : a.toNat < 240
    · by_cases h5 : a.toNat = 224
      · refine ⟨[160, 128, 128], by simp [ufills], ?_⟩
        exact ubegs_of (utk_3 (by omega) h4 (by rw [h5]; decide) (by decide) (by decide) _) (by simp)
      · refine ⟨[128, 128, 128], by simp [ufills], ?_⟩
        exact ubegs_of (utk_3 (by omega) h4 ((usec_iff _ _).2 (by simp; omega)) (by decide) (by decide) _) (by simp)
    · by_cases h5 : a.toNat = 240
      · refine ⟨[144, 128, 128], by simp [ufills], ?_⟩
        exact ubegs_of (utk_4 (by omega) h2 (by rw [h5]; decide) (by decide) (by decide) (by decide) (by decide) _) (by simp)
      · refine ⟨[128, 128, 128], by simp [ufills], ?_⟩
        exact ubegs_of (utk_4 (by omega) h2 ((usec_iff _ _).2 (by simp; omega)) (by decide) (by decide) (by decide) (by decide) _) (by simp)
  | s2 a x h1 h2 hx =>
    refine ⟨by simp, .inr ⟨[128, 128, 128], by simp [ufills], ?_⟩⟩
    by_cases h4 : a.toNat < 240
    · exact ubegs_of (utk_3 h1 h4 hx (by decide) (by decide) _) (by simp)
    · exact ubegs_of (utk_4 (by omega) h2 hx (by decide) (by decide) (by decide) (by decide) _) (by simp)
  | s3 a x y h1 h2 hx h3 h4 =>
    refine ⟨by simp, .inr ⟨[128, 128, 128], by simp [ufills], ?_⟩⟩
    exact ubegs_of (utk_4 (by omega) h2 hx h3 h4 (by decide) (by decide) _) (by simp)
  | bad _ hb => rw [hb] at h; cases h
  | o1 a r h1 => rw [utk_1 h1] at h; cases h
  | o2 a x r h1 h2 h3 h4 => rw [utk_2 h1 h2 h3 h4] at h; cases h
  | o3 a x y r h1 h2 hx h3 h4 => rw [utk_3 h1 h2 hx h3 h4] at h; cases h
  | o4 a x y z r h1 h2 hx h3 h4 h5 h6 => rw [utk_4 h1 h2 hx h3 h4 h5 h6] at h; cases h

/-- the number that so many bytes would be -/
def ucand (n : Nat) (b : List UInt8) : Int :=
  match n, b with
  | 1, a :: _ => a.toNat
  | 2, a :: x :: _ => ((a.toNat : Int) - 192) * 64 + ((x.toNat : Int) - 128)
  | 3, a :: x :: y :: _ => ((a.toNat : Int) - 224) * 4096 + ((x.toNat : Int) - 128) * 64 + ((y.toNat : Int) - 128)
  | 4, a :: x :: y :: z :: _ => ((a.toNat : Int) - 240) * 262144 + ((x.toNat : Int) - 128) * 4096 + ((y.toNat : Int) - 128) * 64 + ((z.toNat : Int) - 128)
  | _, _ => -1
/-- are so many bytes a character? -/
def utest (n : Nat) (b : List UInt8) : Prop := isCh (ucand n b) = true ∧ (uput (ucand n b).toNat).length = n ∧ uput (ucand n b).toNat <+: b

theorem utest_ok {n : Nat} {b : List UInt8} (h : utest n b) : (utk b).2.2 = 0 ∧ ((utk b).1 : Int) = ucand n b := by
  obtain ⟨h1, h2, t, ht⟩ := h
  have hp := (isCh_iff _).1 h1
  have e : ((ucand n b).toNat : Int) = ucand n b := Int.toNat_of_nonneg (by omega)
  have h1' : isCh ((ucand n b).toNat : Int) = true := by rw [e]; exact h1
  have := utk_uput h1' t
  rw [ht] at this
  rw [this]
  exact ⟨rfl, e⟩
theorem ucand_put {c : Nat} (hc : isCh c = true) (t : List UInt8) : ucand (uput c).length (uput c ++ t) = c := by
  rcases uput_inv hc with ⟨a, hu, h1, h2⟩ | ⟨a, x, hu, h1, h2, h3, h4, h5⟩ | ⟨a, x, y, hu, h1, h2, h3, h4, h5, h6⟩ | ⟨a, x, y, z, hu, h1, h2, h3, h4, h5, h6, h7, h8⟩
  · rw [hu, h2]; rfl
  · rw [hu]; show ((a.toNat : Int) - 192) * 64 + ((x.toNat : Int) - 128) = _; omega
  · have hs := (usec_iff _ _).1 h3
    rw [hu]; show ((a.toNat : Int) - 224) * 4096 + ((x.toNat : Int) - 128) * 64 + ((y.toNat : Int) - 128) = _; omega
  · have hs := (usec_iff _ _).1 h3
    rw [hu]; show ((a.toNat : Int) - 240) * 262144 + ((x.toNat : Int) - 128) * 4096 + ((y.toNat : Int) - 128) * 64 + ((z.toNat : Int) - 128) = _; omega
theorem ok_utest {b : List UInt8} (h : (utk b).2.2 = 0) : utest (utk b).2.1 b ∧ 1 ≤ (utk b).2.1 ∧ (utk b).2.1 ≤ 4 ∧ (utk b).2.1 ≤ b.length := by
  obtain ⟨hc, _, ha, hn⟩ := utk_ok h
  have hl := uput_len (utk b).1
  have hlen := congrArg List.length ha
  simp only [List.length_append] at hlen
  have hcand := ucand_put hc (b.drop (utk b).2.1)
  rw [ha, ← hn] at hcand
  refine ⟨⟨by rw [hcand]; exact hc, by rw [hcand, hn]; rfl, ?_⟩, by omega, by omega, by omega⟩
  rw [hcand]
  exact ⟨_, ha⟩

/-- more bytes behind change no character -/
theorem utk_more {L : List UInt8} (h : (utk L).2.2 = 0) (t : List UInt8) : utk (L ++ t) = utk L := by
  obtain ⟨hc, _, ha, hn⟩ := utk_ok h
  have h1 := utk_uput hc (L.drop (utk L).2.1 ++ t)
  rw [← List.append_assoc, ha] at h1
  rw [h1, ← hn, ← h]
end Go.Proofs.Ytodgnlhakafhoaa.Ut
