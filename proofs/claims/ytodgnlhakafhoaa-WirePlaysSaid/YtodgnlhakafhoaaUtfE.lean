/- The layer utf: Pair, Split, the chapter's examples. -/
import Derived.Test.YtodgnlhakafhoaaUtfD
import Derived.Laws.BitsLemmas
namespace Go.Proofs.Ytodgnlhakafhoaa.Ut
open Go.ChangeShapes Go.WideShapes Go.ChangeAt Go.RowKit
open Num Mem Can

def uPok (h l : Int) : Bool := decide (55296 ≤ h) && decide (h < 56320) && decide (56320 ≤ l) && decide (l < 57344)
def uP (h l : Int) : Int := if uPok h l = true then 65536 + (h - 55296) * 1024 + l - 56320 else 0
theorem uPok_iff (h l : Int) : uPok h l = true ↔ 55296 ≤ h ∧ h < 56320 ∧ 56320 ≤ l ∧ l < 57344 := by unfold uPok; simp [and_assoc]
theorem uP_no {h l : Int} (hn : ¬ (55296 ≤ h ∧ h < 56320 ∧ 56320 ≤ l ∧ l < 57344)) : uPok h l = false ∧ uP h l = 0 := by
  have e : ¬ uPok h l = true := fun e => hn ((uPok_iff h l).1 e)
  exact ⟨by simpa using e, by unfold uP; rw [if_neg e]⟩
theorem uP_yes {h l : Int} (hn : 55296 ≤ h ∧ h < 56320 ∧ 56320 ≤ l ∧ l < 57344) : uPok h l = true ∧ uP h l = 65536 + (h - 55296) * 1024 + l - 56320 := by
  have e := (uPok_iff h l).2 hn
  exact ⟨e, by unfold uP; rw [if_pos e]⟩

set_option maxRecDepth 100000 in
theorem pair_any (h l : Int) (a1 : -2147483648 ≤ h) (a2 : h ≤ 2147483647) (b1 : -2147483648 ≤ l) (b2 : l ≤ 2147483647) (w : World) :
    Calls Try.prog 27 #[.int .i32 h, .int .i32 l] w fun e w' => e = .returned (.tuple #[.int .i32 (uP h l), .bool (uPok h l)]) ∧ w = w' := by
  by_cases hy : 55296 ≤ h ∧ h < 56320 ∧ 56320 ≤ l ∧ l < 57344
  · obtain ⟨e1, e2⟩ := uP_yes hy
    obtain ⟨h1, h2, h3, h4⟩ := hy
    generalize uPok h l = o at e1 ⊢
    generalize uP h l = r at e2 ⊢
    try subst e1
    subst e2
    go_enter Try.func27, Try.ntmps27
    go_wp2
    go_ret2
    exact ⟨rfl, rfl⟩
  · obtain ⟨e1, e2⟩ := uP_no hy
    generalize uPok h l = o at e1 ⊢
    generalize uP h l = r at e2 ⊢
    try subst e1
    subst e2
    rcases (show h < 55296 ∨ (¬ h < 55296 ∧ 56320 ≤ h) ∨ (¬ h < 55296 ∧ ¬ 56320 ≤ h ∧ l < 56320) ∨ (¬ h < 55296 ∧ ¬ 56320 ≤ h ∧ ¬ l < 56320 ∧ 57344 ≤ l) by omega) with h1 | ⟨h1, h2⟩ | ⟨h1, h2, h3⟩ | ⟨h1, h2, h3, h4⟩
    · clear hy
      go_enter Try.func27, Try.ntmps27
      go_wp2
      go_ret2
      exact ⟨rfl, rfl⟩
    · clear hy
      go_enter Try.func27, Try.ntmps27
      go_wp2
      go_ret2
      exact ⟨rfl, rfl⟩
    · clear hy
      go_enter Try.func27, Try.ntmps27
      go_wp2
      go_ret2
      exact ⟨rfl, rfl⟩
    · clear hy
      go_enter Try.func27, Try.ntmps27
      go_wp2
      go_ret2
      exact ⟨rfl, rfl⟩
set_option maxRecDepth 100000 in
theorem refpair_any (h l : Int) (a1 : -9223372036854775808 ≤ h) (a2 : h ≤ 9223372036854775807) (b1 : -9223372036854775808 ≤ l) (b2 : l ≤ 9223372036854775807) (w : World) :
    Calls Try.prog 28 #[.int .i64 h, .int .i64 l] w fun e w' => e = .returned (.int .i64 (uP h l)) ∧ w = w' := by
  by_cases hy : 55296 ≤ h ∧ h < 56320 ∧ 56320 ≤ l ∧ l < 57344
  · obtain ⟨e1, e2⟩ := uP_yes hy
    obtain ⟨h1, h2, h3, h4⟩ := hy
    generalize uPok h l = o at e1 ⊢
    generalize uP h l = r at e2 ⊢
    try subst e1
    subst e2
    go_enter Try.func28, Try.ntmps28
    go_wp2
    go_ret
    exact ⟨rfl, rfl⟩
  · obtain ⟨e1, e2⟩ := uP_no hy
    generalize uPok h l = o at e1 ⊢
    generalize uP h l = r at e2 ⊢
    try subst e1
    subst e2
    rcases (show h < 55296 ∨ (¬ h < 55296 ∧ 56320 ≤ h) ∨ (¬ h < 55296 ∧ ¬ 56320 ≤ h ∧ l < 56320) ∨ (¬ h < 55296 ∧ ¬ 56320 ≤ h ∧ ¬ l < 56320 ∧ 57344 ≤ l) by omega) with h1 | ⟨h1, h2⟩ | ⟨h1, h2, h3⟩ | ⟨h1, h2, h3, h4⟩
    · clear hy
      go_enter Try.func28, Try.ntmps28
      go_wp2
      go_ret
      exact ⟨rfl, rfl⟩
    · clear hy
      go_enter Try.func28, Try.ntmps28
      go_wp2
      go_ret
      exact ⟨rfl, rfl⟩
    · clear hy
      go_enter Try.func28, Try.ntmps28
      go_wp2
      go_ret
      exact ⟨rfl, rfl⟩
    · clear hy
      go_enter Try.func28, Try.ntmps28
      go_wp2
      go_ret
      exact ⟨rfl, rfl⟩

set_option maxRecDepth 100000 in
theorem split_no (c : Int) (a1 : -2147483648 ≤ c) (a2 : c ≤ 2147483647) (hn : c < 65536 ∨ 1114111 < c) (w : World) :
    Calls Try.prog 34 #[.int .i32 c] w fun e w' => e = .returned (.tuple #[.int .i32 0, .int .i32 0, .bool false]) ∧ w = w' := by
  rcases (show c < 65536 ∨ (¬ c < 65536 ∧ 1114111 < c) by omega) with h | ⟨h, h'⟩
  · clear hn
    go_enter Try.func34, Try.ntmps34
    go_wp2
    go_ret3
    exact ⟨rfl, rfl⟩
  · clear hn
    go_enter Try.func34, Try.ntmps34
    go_wp2
    go_ret3
    exact ⟨rfl, rfl⟩
set_option maxRecDepth 100000 in
theorem split_nat (d : Nat) (h2 : d ≤ 1048575) (w : World) :
    Calls Try.prog 34 #[.int .i32 ((d : Int) + 65536)] w fun e w' => e = .returned (.tuple #[.int .i32 (55296 + (d : Int) / 1024), .int .i32 (56320 + (d : Int) % 1024), .bool true]) ∧ w = w' := by
  have hm : bits BinOp.and IntKind.i32 (d : Int) 1023 = (d : Int) % 1024 := bits_mask .i32 31 (by decide) wraps_i32 10 (by decide) _ (by omega) (by omega)
  have hw : wrap32 (56320 + (d : Int) % 1024) = 56320 + (d : Int) % 1024 := by unfold wrap32; omega
  have g1 : ¬ (d : Int) + 65536 < 65536 := by omega
  have g2 : ¬ 1114111 < (d : Int) + 65536 := by omega
  go_enter Try.func34, Try.ntmps34
  go_wp2
  go_ret3
  exact ⟨rfl, rfl⟩
theorem split_yes (c : Int) (h1 : 65536 ≤ c) (h2 : c ≤ 1114111) (w : World) :
    Calls Try.prog 34 #[.int .i32 c] w fun e w' => e = .returned (.tuple #[.int .i32 (55296 + (c - 65536) / 1024), .int .i32 (56320 + (c - 65536) % 1024), .bool true]) ∧ w = w' := by
  obtain ⟨d, hd⟩ := Int.eq_ofNat_of_zero_le (show 0 ≤ c - 65536 by omega)
  obtain rfl : c = (d : Int) + 65536 := by omega
  rw [hd]
  exact split_nat d (by omega) w

theorem works_any (w : World) :
    Calls Try.prog 23 #[] w fun e w' => e = .returned (.bool true) ∧ Below w.heap.size w w' := by
  have e1 : uput 8364 = [226, 130, 172] := by decide +kernel
  have hc : isCh (8364 : Int) = true := by decide +kernel
  have e2 : uE [192, 128] 0 = 11 := by decide +kernel
  have e3 : uE [226, 130] 0 = 10 := by decide +kernel
  have e4 : uP 55357 56832 = 128512 := by decide +kernel
  have e5 : uPok 55357 56832 = true := by decide +kernel
  have E2 := Lib.hid e2
  have E3 := Lib.hid e3
  have E4 := Lib.hid e4
  have E5 := Lib.hid e5
  clear e2 e3 e4 e5
  go_enter Try.func23, Try.ntmps23
  go_wp2_with fail
  refine (put_3 none 0 0 w.heap.size 8364 [] (by omega) (by omega) hc w (Own.nil _ _) (Nat.le_refl _) (by omega)).mono ?_
  rintro e w1 ⟨A1, c1, rfl, ho1, hb1⟩
  rw [e1, List.nil_append] at ho1
  clear e1 hc
  have s1 := hb1.size
  go_wp2_with fail
  refine (take_any _ _ _ (w1.heap.size + 1) 0 [192, 128] _ (rd_lit w1 [192, 128]) (by simp) (by simp) (by simp)).mono ?_
  rintro e w2 ⟨rfl, rfl⟩
  rw [E2.out]
  have hr1 := ho1.rd.alloc (Nat.le_refl _) (.cells (cells [192, 128]).toArray 5)
  have hcap := ho1.cap
  rw [Nat.zero_add] at hr1 hcap
  have hr2 := hr1.upto (k := 2) (by omega)
  go_wp2_with fail
  refine (take_any _ 2 _ w1.heap.size 0 [226, 130] _ hr2 (by omega) (by omega) (by omega)).mono ?_
  rintro e w' ⟨rfl, rfl⟩
  rw [E3.out]
  go_wp2_with fail
  refine (pair_any 55357 56832 (by omega) (by omega) (by omega) (by omega) _).mono ?_
  rintro e w' ⟨rfl, rfl⟩
  rw [E4.out, E5.out]
  go_wp2_with (with_reducible refine wpl_str rfl rfl hr1 ?_)
  go_ret
  exact ⟨rfl, (hb1.al (Nat.le_refl _) _)⟩

theorem ucn_le : ∀ (f : Nat) (L : List UInt8) (m : Nat), ucn f L = some m → m ≤ L.length
  | f, [], m, h => by cases f <;> · injection h with h; omega
  | 0, _ :: _, _, h => by cases h
  | f + 1, a :: r, m, h => by
    unfold ucn at h
    by_cases h0 : (utk (a :: r)).2.2 = 0
    · rw [if_pos h0] at h
      have hp := utk_pos h0
      obtain ⟨m', hm', rfl⟩ := Option.map_eq_some_iff.1 h
      have := ucn_le f _ m' hm'
      rw [List.length_drop] at this
      omega
    · rw [if_neg h0] at h; cases h
theorem ucount_le {L : List UInt8} {m : Nat} (h : ucount L = some m) : m ≤ L.length := ucn_le _ L m h

/-- texts behind one another -/
theorem ucn_add : ∀ (f : Nat) (L t : List UInt8) (n : Nat), L.length ≤ f → ucount L = some n → ucount (L ++ t) = (ucount t).map (· + n)
  | _, [], t, n, _, h => by
    injection h with h
    subst h
    rw [List.nil_append]; cases ucount t <;> rfl
  | 0, _ :: _, _, _, h, _ => by simp at h
  | f + 1, a :: r, t, n, hf, h => by
    by_cases h0 : (utk (a :: r)).2.2 = 0
    · have hp := utk_pos h0
      have hm := utk_more h0 t
      rw [ucount_ok h0] at h
      obtain ⟨m', hm', rfl⟩ := Option.map_eq_some_iff.1 h
      have hr := ucn_add f ((a :: r).drop (utk (a :: r)).2.1) t m' (by rw [List.length_drop]; simp at hf ⊢; omega) hm'
      rw [ucount_ok (by rw [hm]; exact h0), hm, List.drop_append_of_le_length (by omega), hr, Option.map_map]
      congr 1
    · rw [ucount_bad (by simp) h0] at h; cases h
theorem ucount_add {L t : List UInt8} {n : Nat} (h : ucount L = some n) : ucount (L ++ t) = (ucount t).map (· + n) := ucn_add _ L t n (Nat.le_refl _) h

theorem uPok_eq (h l : Int) : uPok h l = (uP h l != 0) := by
  by_cases hy : 55296 ≤ h ∧ h < 56320 ∧ 56320 ≤ l ∧ l < 57344
  · obtain ⟨e1, e2⟩ := uP_yes hy
    rw [e1, e2]; symm; rw [bne_iff_ne]; omega
  · obtain ⟨e1, e2⟩ := uP_no hy
    rw [e1, e2]; rfl
theorem uP_fit (h l : Int) : 0 ≤ uP h l ∧ uP h l ≤ 1114111 := by
  by_cases hy : 55296 ≤ h ∧ h < 56320 ∧ 56320 ≤ l ∧ l < 57344
  · obtain ⟨e1, e2⟩ := uP_yes hy
    rw [e2]; omega
  · obtain ⟨e1, e2⟩ := uP_no hy
    rw [e2]; omega

/-- Put at a character -/
theorem put_yes (A : Option Addr) (k cp base c : Nat) (xs : List UInt8) (hc : isCh c = true) (w : World) (hown : Own w base A k cp xs) (hbase : base ≤ w.heap.size) (hk : k ≤ 1000000000) :
    Calls Try.prog 24 #[.slice A k cp, .int .i32 c] w fun e w' => ∃ A' n' c', e = .returned (.tuple #[.slice A' n' c', .int .i64 0]) ∧ n' = k + (uput c).length ∧ Own w' base A' n' c' (xs ++ uput c) ∧ Below base w w' := by
  have hi := (isCh_iff c).1 hc
  rcases (show c < 128 ∨ (128 ≤ c ∧ c < 2048) ∨ (2048 ≤ c ∧ c < 65536) ∨ 65536 ≤ c by omega) with h | ⟨h, h'⟩ | ⟨h, h'⟩ | h
  · have hl : (uput c).length = 1 := by unfold uput; rw [if_pos h]; rfl
    refine (put_1 A k cp base c xs (by omega) (by omega) hc w hown hbase hk).mono ?_
    rintro e w' ⟨A', c', rfl, h1, h2⟩
    exact ⟨A', k + 1, c', rfl, by rw [hl], h1, h2⟩
  · have hl : (uput c).length = 2 := by unfold uput; rw [if_neg (by omega), if_pos h']; rfl
    refine (put_2 A k cp base c xs (by omega) (by omega) hc w hown hbase hk).mono ?_
    rintro e w' ⟨A', c', rfl, h1, h2⟩
    exact ⟨A', k + 2, c', rfl, by rw [hl], h1, h2⟩
  · have hl : (uput c).length = 3 := by unfold uput; rw [if_neg (by omega), if_neg (by omega), if_pos h']; rfl
    refine (put_3 A k cp base c xs (by omega) (by omega) hc w hown hbase hk).mono ?_
    rintro e w' ⟨A', c', rfl, h1, h2⟩
    exact ⟨A', k + 3, c', rfl, by rw [hl], h1, h2⟩
  · have hl : (uput c).length = 4 := by unfold uput; rw [if_neg (by omega), if_neg (by omega), if_neg (by omega)]; rfl
    refine (put_4 A k cp base c xs (by omega) (by omega) hc w hown hbase hk).mono ?_
    rintro e w' ⟨A', c', rfl, h1, h2⟩
    exact ⟨A', k + 4, c', rfl, by rw [hl], h1, h2⟩
/-- what is put stands where it was put -/
theorem take_put {c : Nat} (hc : isCh c = true) (xs ts : List UInt8) : uN (xs ++ uput c ++ ts) xs.length = c ∧ uTo (xs ++ uput c ++ ts) xs.length = ((xs.length + (uput c).length : Nat) : Int) ∧ uE (xs ++ uput c ++ ts) xs.length = 0 := by
  have hd : (xs ++ uput c ++ ts).drop xs.length = uput c ++ ts := by rw [List.append_assoc, List.drop_left]
  have hl : xs.length ≤ (xs ++ uput c ++ ts).length := by simp
  rw [uN_in hl, uTo_in hl, uE_in hl, hd, utk_uput hc]
  exact ⟨rfl, by simp, rfl⟩
theorem cnt_join (xs ts : List UInt8) : ucE xs = 11 ∨ (ucE xs = 0 ∧ ucE ts = 11 ∧ ucE (xs ++ ts) = 11) ∨ (ucE xs = 0 ∧ ucE ts = 0 ∧ ucE (xs ++ ts) = 0 ∧ ucM (xs ++ ts) = ucM xs + ucM ts) := by
  cases h : ucount xs with
  | none => exact .inl (by unfold ucE; rw [h]; rfl)
  | some n =>
    have ha := ucount_add (t := ts) h
    cases h2 : ucount ts with
    | none =>
      rw [h2] at ha
      exact .inr (.inl ⟨by unfold ucE; rw [h]; rfl, by unfold ucE; rw [h2]; rfl, by unfold ucE; rw [ha]; rfl⟩)
    | some m =>
      rw [h2] at ha
      refine .inr (.inr ⟨by unfold ucE; rw [h]; rfl, by unfold ucE; rw [h2]; rfl, by unfold ucE; rw [ha]; rfl, ?_⟩)
      unfold ucM
      rw [ha, h, h2]
      simp; omega
theorem ucM_le (xs : List UInt8) : ucM xs ≤ xs.length := by
  unfold ucM
  cases h : ucount xs with
  | none => simp
  | some m => simpa using ucount_le h
end Go.Proofs.Ytodgnlhakafhoaa.Ut
