/- What is proved: for every input the Go function avocetlaw02.VarintBack returns true and leaves its arguments as they were. Conditions: none beyond the given statement's own. -/
import Derived.Test.YtodgnlhakafhoaaRows
import Derived.WalkKit
import Derived.ProofKit
import Derived.OpenShut
import Derived.Test.YtodgnlhakafhoaaVarQ
import Derived.Test.YtodgnlhakafhoaaCanM
import Derived.ShutString
import Derived.ChangeOld
import Derived.Below
namespace Go.Proofs.Ytodgnlhakafhoaa.varintBack
open Go.ChangeShapes Go.WideShapes Go.ChangeAt Go.RowKit
open Num Zg Mem Vr Can
open Go.ChangeMaps (open_string shut_string)
set_option linter.unusedVariables false

theorem own : ownKnob Try.prog.godebug = none := by kernel_rfl
theorem laidOut : laidOutB Try.prog = true := by kernel_rfl

/-- WHAT THE WALK IS TOLD OF A SLICE OF INTEGERS THAT CAME IN: it is nil; or it leads to a row of 'cap' cells, the numbers 'zs' (the first 'len' are its elements, the rest its spare room), each fitting its kind. -/
def IsRow (k : IntKind) (w : World) (a : Option Addr) (len cap : Nat) (zs : List Int) : Prop :=
  (a = none ∧ len = 0 ∧ cap = 0 ∧ zs = []) ∨
  ∃ x, a = some x ∧ len ≤ cap ∧ cap ≤ maxLen ∧ zs.length = cap ∧ (∀ i, i < zs.length → w.cell? (x.add i) = some (.int k (zs.getD i 0))) ∧ ∀ n ∈ zs, (Lit.int k n).wf = true

/-! ### STEP 1: THE WALK: the Go text returns true, AND WRITES NOTHING THAT WAS THERE: 'Below w.heap.size w w'' (Derived/Below.lean: '.refl', '.alloc', '.drew', '.setCell' at a new block, '.trans'). Open each 'IsRow' by 'rcases' AHEAD of 'go_enter'; part every test ahead of the walk. -/
theorem walk (a0 : Int) (a1 : Option Addr) (len1 cap1 : Nat) (z1 : List Int) (a2 : Option Addr) (len2 cap2 : Nat) (z2 : List Int) (w : World) (w0 : (Lit.int .i64 a0).wf = true) (w1 : IsRow .u8 w a1 len1 cap1 z1) (w2 : IsRow .u8 w a2 len2 cap2 z2) :
    Calls Try.prog 6 #[.int .i64 a0, .slice a1 len1 cap1, .slice a2 len2 cap2] w fun e w' => e = .returned (.bool true) ∧ Below w.heap.size w w' := by
  obtain ⟨xs, hr, hlc, hlm⟩ := rd_row w1
  obtain ⟨ts, htr, htlc, htlm⟩ := rd_row w2
  obtain ⟨a1l, a1h⟩ := Fits.i64 w0
  unfold maxLen at hlm htlm
  have hB : w.heap.size ≤ w.heap.size := Nat.le_refl _
  by_cases h3 : len1 ≤ 2000
  · by_cases h4 : len2 ≤ 2000
    · have hl := hr.len
      have htl := htr.len
      have hzn := zig_nonneg a0
      have hzl := zig_le a0 a1l a1h
      obtain ⟨u, hu⟩ := Int.eq_ofNat_of_zero_le hzn
      have hu2 : (zig a0).toNat = u := by omega
      have hul : u ≤ 18446744073709551615 := by omega
      have hzz : zag (u : Int) = a0 := by rw [← hu]; exact zag_zig a0
      have hpl := parts_le (u := u) (by omega)
      have hpp := parts_pos u
      have hdrop : (xs ++ vput u ++ ts).drop len1 = vput u ++ ts := by
        rw [List.append_assoc, ← hl, List.drop_left]
      have hlen : (xs ++ vput u ++ ts).length = len1 + parts u + len2 := by simp [vput_len, hl, htl]; omega
      have ht := tk_vput 10 1 (by omega) _ u 0 0 ts (Nat.le_refl _) (by omega) (by show u < 2 * 128 ^ 9; omega) (.inr rfl)
      have hN : tkN 10 1 (xs ++ vput u ++ ts) len1 = a0 := by
        rw [tkN_in (by omega), hdrop, ht]; simpa using hzz
      have hTo : tkTo 10 1 (xs ++ vput u ++ ts) len1 = (len1 : Int) + parts u := by
        rw [tkTo_in (by omega), hdrop, ht]; simp
      have hE : tkE 10 1 (xs ++ vput u ++ ts) len1 = 0 := by
        rw [tkE_in (by omega), hdrop, ht]; rfl
      have HN := Lib.hid hN
      have HTo := Lib.hid hTo
      have HE := Lib.hid hE
      have HU := Lib.hid hu2
      have HZZ := Lib.hid hzz
      have HD := Lib.hid hdrop
      have HLEN := Lib.hid hlen
      clear hN hTo hE ht hu2 hzz hdrop hlen hzn hzl
      by_cases h5 : a0 < -2147483648 ∨ 2147483647 < a0
      · have hbig : 4294967296 ≤ u := by
          have h6 := hu
          unfold zig at h6
          split at h6 <;> omega
        have ht5 := tk_vput_bad 5 15 (by omega) _ u 0 0 ts (Nat.le_refl _) (by omega) (by show 16 * 128 ^ 4 ≤ u; omega)
        have h5N : tkN 5 15 (xs ++ vput u ++ ts) len1 = 0 := by
          rw [tkN_in (by rw [HLEN.out]; omega), HD.out, ht5]; rfl
        have h5To : tkTo 5 15 (xs ++ vput u ++ ts) len1 = (len1 : Int) := by
          rw [tkTo_in (by rw [HLEN.out]; omega), HD.out, ht5]; simp
        have h5E : tkE 5 15 (xs ++ vput u ++ ts) len1 = 11 := by
          rw [tkE_in (by rw [HLEN.out]; omega), HD.out, ht5]; rfl
        have H5N := Lib.hid h5N
        have H5To := Lib.hid h5To
        have H5E := Lib.hid h5E
        clear h5N h5To h5E ht5 hu
        rcases h5 with h5 | h5
        all_goals
          go_enter Try.func6, Try.ntmps6
          go_wp2_with fail
          refine (works_any _).mono ?_
          rintro e w3 ⟨rfl, hb3⟩
          go_wp2_with (at_builtin; refine wpl_app rfl rfl (Own.lit w3 w.heap.size [] hb3.size (by simp)) rfl ((hr.below hb3).alloc hb3.size _) (by omega) (by have := hb3.size; simp; omega) ?_; intro A4 c4 w4 ho4 hb4; simp only [Nat.zero_add, List.nil_append] at ho4)
          have hb4' := (hb3.al hB (.cells #[] 5)).trans hb4
          refine (put_any a0 a1l a1h A4 len1 c4 xs w.heap.size w4 ho4 hb4'.size (by omega)).mono ?_
          rintro e w5 ⟨A5, c5, rfl, ho5, hb5⟩
          rw [HU.out] at ho5 ⊢
          have hb5' := hb4'.trans hb5
          go_wp2_with (at_builtin; refine wpl_app rfl rfl ho5 rfl (htr.below hb5') (by omega) hb5'.size ?_; intro A6 c6 w6 ho6 hb6)
          have hb6' := hb5'.trans hb6
          refine (Take_any A6 (len1 + parts u + len2) c6 w6.heap.size len1 (xs ++ vput u ++ ts) w6 ho6.rd (Nat.le_refl _) ho6.cap (by omega)).mono ?_
          rintro e w7 ⟨rfl, hb7⟩
          rw [HN.out, HTo.out, HE.out]
          have hb7' := hb6'.thn hB hb7
          go_wp2_with fail
          refine (TakeInt_any A6 (len1 + parts u + len2) c6 w6.heap.size len1 (xs ++ vput u ++ ts) w7 (ho6.rd.below hb7) hb7.size ho6.cap (by omega)).mono ?_
          rintro e w8 ⟨rfl, hb8⟩
          rw [H5N.out, H5To.out, H5E.out]
          have hb8' := hb7'.thn hB hb8
          go_wp2_with fail
          refine (size_any a0 a1l a1h _).mono ?_
          rintro e w9 ⟨rfl, rfl⟩
          rw [HU.out]
          go_wp2_with fail
          go_ret
          exact ⟨rfl, hb8'⟩
      · have hsm : u < 4294967296 := by
          have h6 := hu
          unfold zig at h6
          split at h6 <;> omega
        have ht5 := tk_vput 5 15 (by omega) _ u 0 0 ts (Nat.le_refl _) (by omega) (by show u < 16 * 128 ^ 4; omega) (.inr rfl)
        have h5N : tkN 5 15 (xs ++ vput u ++ ts) len1 = a0 := by
          rw [tkN_in (by rw [HLEN.out]; omega), HD.out, ht5]; simpa using HZZ.out
        have h5To : tkTo 5 15 (xs ++ vput u ++ ts) len1 = (len1 : Int) + parts u := by
          rw [tkTo_in (by rw [HLEN.out]; omega), HD.out, ht5]; simp
        have h5E : tkE 5 15 (xs ++ vput u ++ ts) len1 = 0 := by
          rw [tkE_in (by rw [HLEN.out]; omega), HD.out, ht5]; rfl
        have H5N := Lib.hid h5N
        have H5To := Lib.hid h5To
        have H5E := Lib.hid h5E
        clear h5N h5To h5E ht5 hu
        go_enter Try.func6, Try.ntmps6
        go_wp2_with fail
        refine (works_any _).mono ?_
        rintro e w3 ⟨rfl, hb3⟩
        go_wp2_with (at_builtin; refine wpl_app rfl rfl (Own.lit w3 w.heap.size [] hb3.size (by simp)) rfl ((hr.below hb3).alloc hb3.size _) (by omega) (by have := hb3.size; simp; omega) ?_; intro A4 c4 w4 ho4 hb4; simp only [Nat.zero_add, List.nil_append] at ho4)
        have hb4' := (hb3.al hB (.cells #[] 5)).trans hb4
        refine (put_any a0 a1l a1h A4 len1 c4 xs w.heap.size w4 ho4 hb4'.size (by omega)).mono ?_
        rintro e w5 ⟨A5, c5, rfl, ho5, hb5⟩
        rw [HU.out] at ho5 ⊢
        have hb5' := hb4'.trans hb5
        go_wp2_with (at_builtin; refine wpl_app rfl rfl ho5 rfl (htr.below hb5') (by omega) hb5'.size ?_; intro A6 c6 w6 ho6 hb6)
        have hb6' := hb5'.trans hb6
        refine (Take_any A6 (len1 + parts u + len2) c6 w6.heap.size len1 (xs ++ vput u ++ ts) w6 ho6.rd (Nat.le_refl _) ho6.cap (by omega)).mono ?_
        rintro e w7 ⟨rfl, hb7⟩
        rw [HN.out, HTo.out, HE.out]
        have hb7' := hb6'.thn hB hb7
        go_wp2_with fail
        refine (TakeInt_any A6 (len1 + parts u + len2) c6 w6.heap.size len1 (xs ++ vput u ++ ts) w7 (ho6.rd.below hb7) hb7.size ho6.cap (by omega)).mono ?_
        rintro e w8 ⟨rfl, hb8⟩
        rw [H5N.out, H5To.out, H5E.out]
        have hb8' := hb7'.thn hB hb8
        go_wp2_with fail
        refine (size_any a0 a1l a1h _).mono ?_
        rintro e w9 ⟨rfl, rfl⟩
        rw [HU.out]
        go_wp2_with fail
        go_ret
        exact ⟨rfl, hb8'⟩
    · go_enter Try.func6, Try.ntmps6
      go_wp2_with fail
      refine (works_any _).mono ?_
      rintro e w3 ⟨rfl, hb3⟩
      go_wp2_with fail
      go_ret
      exact ⟨rfl, hb3⟩
  · go_enter Try.func6, Try.ntmps6
    go_wp2_with fail
    refine (works_any _).mono ?_
    rintro e w3 ⟨rfl, hb3⟩
    go_wp2_with fail
    go_ret
    exact ⟨rfl, hb3⟩

/-! ### THE ROW's STEP: WRITTEN OUT: LEAVE IT -/
set_option maxRecDepth 100000 in
theorem lifted (os : Os) (started : os.Started) (H : Type) (enc : TypeId × Value → H) :
    ReturnsInHanded {} Try.checked os 6 .any (Rows.varintBackSpec.pre6 enc Try.prog Try.f6 Rows.varintBackRow.domain false) (Rows.varintBackSpec.post enc Try.prog Try.f6 false true false false) := by
  refine returnsInHanded_of_change (C := Try.checked) own started (by kernel_rfl) Try.func6
    (ChangeSpec.witness6 (enc := enc) (C := Try.checked) false ⟨#[], #[.int .i64 0, .slice none 0 0, .slice none 0 0], []⟩ 8 (by kernel_rfl) (by kernel_rfl) (by kernel_rfl) (by kernel_rfl)) ?_
  intro W base args ds gs before hval0 hW hcnd _
  have hval : ∀ (j : Nat) t v, Try.f6.params[j]? = some t → args[j]? = some v → Value.okWide Try.prog W .any base t v := hval0
  have hW' := hW
  obtain ⟨p, q, hA0, hV, rfl, hfz, hnd⟩ := hW
  have hA : DataW.TrodAll enc Try.prog W 0 (fun _ => true) true Try.f6.params.toList args.toList ds p := hA0
  rw [Try.params6] at hA hval
  obtain ⟨v0, vs0, d0, ds0, p0, q0, hargs, rfl, rfl, h0, r0⟩ := trodAll_cons hA
  obtain ⟨v1, vs1, d1, ds1, p1, q1, rfl, rfl, rfl, h1, r1⟩ := trodAll_cons r0
  obtain ⟨v2, vs2, d2, ds2, p2, q2, rfl, rfl, rfl, h2, r2⟩ := trodAll_cons r1
  obtain ⟨rfl, rfl, rfl⟩ := trodAll_nil r2
  obtain rfl : args = #[v0, v1, v2] := by cases args; simp_all
  obtain ⟨rfl, rfl⟩ := trodVars_none hV
  obtain ⟨a0, rfl, rfl, rfl, w0⟩ := open_int Try.underlying2 (hval 0 2 v0 rfl rfl) h0
  obtain ⟨a1, len1, cap1, rfl⟩ := okWide_slice Try.underlying22 (hval 1 22 v1 rfl rfl)
  have k1 := h1
  have lt1 : ∀ x ∈ p1, x.block < W.heap.size := by obtain ⟨m, hm⟩ := k1; exact DataW.trod_lt m _ _ _ hm
  obtain ⟨z1, w1⟩ : ∃ zs, IsRow .u8 W a1 len1 cap1 zs := by
    obtain ⟨fuel, hf⟩ := h1
    rcases open_ints Try.underlying22 Try.underlying5 (by kernel_rfl) hf with ⟨hcs, _⟩ | ⟨x, l, c, zs, hcs, _, hl, hm, hz, _, hcell, hwz⟩
    · simp [Value.cells] at hcs
      obtain ⟨rfl, rfl, rfl⟩ := hcs
      exact ⟨[], .inl ⟨rfl, rfl, rfl, rfl⟩⟩
    · simp [Value.cells] at hcs
      obtain ⟨rfl, rfl, rfl⟩ := hcs
      exact ⟨zs, .inr ⟨_, rfl, hl, hm, by simpa using hz, hcell, hwz⟩⟩
  obtain ⟨a2, len2, cap2, rfl⟩ := okWide_slice Try.underlying22 (hval 2 22 v2 rfl rfl)
  have k2 := h2
  have lt2 : ∀ x ∈ p2, x.block < W.heap.size := by obtain ⟨m, hm⟩ := k2; exact DataW.trod_lt m _ _ _ hm
  obtain ⟨z2, w2⟩ : ∃ zs, IsRow .u8 W a2 len2 cap2 zs := by
    obtain ⟨fuel, hf⟩ := h2
    rcases open_ints Try.underlying22 Try.underlying5 (by kernel_rfl) hf with ⟨hcs, _⟩ | ⟨x, l, c, zs, hcs, _, hl, hm, hz, _, hcell, hwz⟩
    · simp [Value.cells] at hcs
      obtain ⟨rfl, rfl, rfl⟩ := hcs
      exact ⟨[], .inl ⟨rfl, rfl, rfl, rfl⟩⟩
    · simp [Value.cells] at hcs
      obtain ⟨rfl, rfl, rfl⟩ := hcs
      exact ⟨zs, .inr ⟨_, rfl, hl, hm, by simpa using hz, hcell, hwz⟩⟩
  clear hA0 hval0
  refine (walk a0 a1 len1 cap1 z1 a2 len2 cap2 z2 W w0 w1 w2).mono fun e W' ⟨he, bel⟩ => ?_
  subst he
  exact ⟨_, rfl, _, _, _, [], _, [], hW', trodAll_mk1 (shut_bool Try.underlying4 _), (trodAll_cons_mk (shut_int Try.underlying2 w0) (trodAll_cons_mk (Below.trod laidOut (by kernel_rfl) (of_decide_eq_true (by kernel_rfl)) k1 bel lt1) (trodAll_cons_mk (Below.trod laidOut (by kernel_rfl) (of_decide_eq_true (by kernel_rfl)) k2 bel lt2) trodAll_mk0))), rfl, bel.frame _, fun h => by cases h⟩

theorem over : Rows.varintBackRow.holds Try.pinned (OpenSpec.ofChange Rows.varintBackSpec) :=
  OpenClaim.holds_of_wide 6 Try.f6 rfl rfl rfl rfl rfl rfl rfl ⟨rfl, rfl, rfl, rfl, rfl⟩ rfl rfl rfl rfl rfl (by kernel_rfl) Try.func6 (by kernel_rfl)
    (of_decide_eq_true (by kernel_rfl)) (by unfold Func.isWrapper; first | (rw [if_pos (by decide +kernel)]; kernel_rfl) | (rw [if_neg (by decide +kernel)]; exact ⟨rfl, rfl⟩))
    (fun os started H enc _ => lifted os started H enc)

/-- ████ THE STATEMENT ████ -/
theorem proved : Rows.VarintBackSaid := over
#print axioms proved
end Go.Proofs.Ytodgnlhakafhoaa.varintBack
