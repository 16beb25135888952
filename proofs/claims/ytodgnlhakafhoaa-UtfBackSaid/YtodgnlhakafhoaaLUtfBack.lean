/- What is proved: for every input the Go function avocetlaw03.UtfBack returns true and leaves its arguments as they were. Conditions: none beyond the given statement's own. -/
import Derived.Test.YtodgnlhakafhoaaRows
import Derived.WalkKit
import Derived.ProofKit
import Derived.OpenShut
import Derived.Test.YtodgnlhakafhoaaUtfE
import Derived.Test.YtodgnlhakafhoaaCanM
import Derived.BigQuiet
import Derived.Deep.QuietTactic
import Derived.ShutString
import Derived.ChangeOld
import Derived.Below
namespace Go.Proofs.Ytodgnlhakafhoaa.utfBack
open Go.ChangeShapes Go.WideShapes Go.ChangeAt Go.RowKit
open Num Mem Can Ut
open Go.ChangeMaps (open_string shut_string)
set_option linter.unusedVariables false

theorem own : ownKnob Try.prog.godebug = none := by kernel_rfl
theorem laidOut : laidOutB Try.prog = true := by kernel_rfl

/-- WHAT THE WALK IS TOLD OF A SLICE OF INTEGERS THAT CAME IN: it is nil; or it leads to a row of 'cap' cells, the numbers 'zs' (the first 'len' are its elements, the rest its spare room), each fitting its kind. -/
def IsRow (k : IntKind) (w : World) (a : Option Addr) (len cap : Nat) (zs : List Int) : Prop :=
  (a = none ∧ len = 0 ∧ cap = 0 ∧ zs = []) ∨
  ∃ x, a = some x ∧ len ≤ cap ∧ cap ≤ maxLen ∧ zs.length = cap ∧ (∀ i, i < zs.length → w.cell? (x.add i) = some (.int k (zs.getD i 0))) ∧ ∀ n ∈ zs, (Lit.int k n).wf = true

/-! ### STEP 1: THE WALK: the Go text returns true, AND WRITES NOTHING THAT WAS THERE: 'Below w.heap.size w w'' (Derived/Below.lean: '.refl', '.alloc', '.drew', '.setCell' at a new block, '.trans'). Open each 'IsRow' by 'rcases' AHEAD of 'go_enter'; part every test ahead of the walk. -/
set_option maxRecDepth 100000 in
set_option maxHeartbeats 8000000 in
theorem walk (a0 : Int) (a1 : Option Addr) (len1 cap1 : Nat) (z1 : List Int) (a2 : Option Addr) (len2 cap2 : Nat) (z2 : List Int) (w : World) (w0 : (Lit.int .i32 a0).wf = true) (w1 : IsRow .u8 w a1 len1 cap1 z1) (w2 : IsRow .u8 w a2 len2 cap2 z2) :
    Calls Try.prog 8 #[.int .i32 a0, .slice a1 len1 cap1, .slice a2 len2 cap2] w fun e w' => e = .returned (.bool true) ∧ Below w.heap.size w w' := by
  obtain ⟨xs, hr, hlc, hlm⟩ := rd_row w1
  obtain ⟨ts, htr, htlc, htlm⟩ := rd_row w2
  obtain ⟨a0l, a0h⟩ := Fits.i32 w0
  unfold maxLen at hlm htlm
  have hB : w.heap.size ≤ w.heap.size := Nat.le_refl _
  by_cases h3 : len1 ≤ 2000
  · by_cases h4 : len2 ≤ 2000
    · have hl := hr.len
      have htl := htr.len
      by_cases hch : isCh a0 = true
      · have hi := (isCh_iff a0).1 hch
        obtain ⟨c, rfl⟩ := Int.eq_ofNat_of_zero_le (show 0 ≤ a0 by omega)
        have hul := uput_len c
        obtain ⟨hN, hTo, hE⟩ := take_put hch xs ts
        rw [hl] at hN hTo hE
        have HN := Lib.hid hN
        have HTo := Lib.hid hTo
        have HE := Lib.hid hE
        have HCH := Lib.hid hch
        clear hch hN hTo hE
        go_enter Try.func8, Try.ntmps8
        go_wp2_with fail
        refine (works_any _).mono ?_
        rintro e w3 ⟨rfl, hb3⟩
        go_wp2_with (at_builtin; refine wpl_app rfl rfl (Own.lit w3 w.heap.size [] hb3.size (by simp)) rfl ((hr.below hb3).alloc hb3.size _) (by omega) (by have := hb3.size; simp; omega) ?_; intro A4 c4 w4 ho4 hb4; simp only [Nat.zero_add, List.nil_append] at ho4; have hb4' := (hb3.al hB (.cells #[] 5)).trans hb4)
        refine (put_yes A4 _ c4 w.heap.size c xs HCH.out w4 ho4 hb4'.size (by omega)).mono ?_
        rintro e w5 ⟨A5, n5, c5, rfl, hn5, ho5, hb5⟩
        have hb5' := hb4'.trans hb5
        obtain ⟨m5, hm5⟩ : ∃ m5, m5 = n5 := ⟨_, rfl⟩
        have HN5 := Lib.hid hn5
        have hn5b : n5 ≤ 2004 := by omega
        clear hn5 hm5
        go_wp2_with (at_builtin; first | (refine wpl_app rfl rfl (Own.lit w5 w.heap.size [] hb5'.size (by simp)) rfl (ho5.rd.alloc (Nat.le_refl _) _) (by omega) (by have := hb5'.size; simp; omega) ?_; intro A6 c6 w6 ho6 hb6; simp only [Nat.zero_add, List.nil_append] at ho6; have hb6' := (hb5'.al hB (.cells #[] 5)).trans hb6) | (refine wpl_app rfl rfl ho6 rfl (htr.below hb6') (by omega) hb6'.size ?_; intro A7 c7 w7 ho7 hb7; have hb7' := hb6'.trans hb7))
        refine (take_any A7 _ c7 w7.heap.size (len1 : Int) (xs ++ uput c ++ ts) w7 ho7.rd (by omega) (by omega) (by omega)).mono ?_
        rintro e w' ⟨rfl, rfl⟩
        rw [HN.out, HTo.out, HE.out, ← HN5.out]
        go_wp2_with fail
        refine (take_any a2 len2 cap2 w.heap.size 0 ts w7 (htr.below hb7') (by omega) (by omega) (by omega)).mono ?_
        rintro e w' ⟨rfl, rfl⟩
        by_cases h0 : (utk ts).2.2 = 0
        · obtain ⟨q1, q2, q3, q4⟩ := utk_ok h0
          have hp := utk_pos h0
          have e1 : uN ts 0 = (utk ts).1 := uN_in (p := 0) (by omega)
          have e2 : uTo ts 0 = ((utk ts).2.1 : Int) := by have := uTo_in (xs := ts) (p := 0) (by omega); simpa using this
          have e3 : uE ts 0 = 0 := (uE_in (p := 0) (by omega)).trans h0
          rw [e1, e2, e3]
          clear e1 e2 e3
          generalize (utk ts).1 = D at q1 q2 q3 q4 ⊢
          generalize (utk ts).2.1 = n at q3 q4 hp ⊢
          have hn2 : n ≤ len2 := by omega
          have hn2i : (n : Int) ≤ len2 := by omega
          have hpre : ts.take n = uput D := by rw [← q3, q4, List.take_left]
          have HPRE := Lib.hid hpre
          have HQ4 := Lib.hid q4
          have HQ1 := Lib.hid q1
          clear q1 q3 q4 hpre h0 hp
          go_wp2_with fail
          refine (put_yes none 0 0 w7.heap.size D [] HQ1.out w7 (Own.nil _ _) (Nat.le_refl _) (by omega)).mono ?_
          rintro e w8 ⟨A8, n8, c8, rfl, hn8, ho8, hb8⟩
          rw [List.nil_append] at ho8
          have hb8' := hb7'.thn hB hb8
          clear hn8
          go_wp2_with fail
          refine region_can [0, 1, 2, 3, 4, 5, 6, 7, 8, 9, 10, 11] [] (by kernel_rfl) (by kernel_rfl) (by simp) (by kernel_rfl) (fun _ _ d _ _ h => by cases d <;> exact h) (fun wd hd hds => ?_)
          have Hds := Lib.hid hds
          clear hds
          have hbd := hb8'.thn hB hd
          repeat ((first | (refine can_pure (v := ?_) rfl rfl rfl ?_ ?_; rotate_left; · (intro w'; go_simp; try with_reducible rfl)) | (refine can_skip rfl rfl rfl ?_)); simp only [Act.put, List.setIfInBounds_toArray, List.set_cons_zero, List.set_cons_succ])
          refine can_str rfl rfl rfl rfl (ho8.rd.below hd) (by omega) ?_
          simp only [Act.put, List.setIfInBounds_toArray, List.set_cons_zero, List.set_cons_succ]
          repeat ((first | (refine can_pure (v := ?_) rfl rfl rfl ?_ ?_; rotate_left; · (intro w'; go_simp; try with_reducible rfl)) | (refine can_skip rfl rfl rfl ?_)); simp only [Act.put, List.setIfInBounds_toArray, List.set_cons_zero, List.set_cons_succ])
          refine can_upto rfl rfl rfl rfl rfl (htr.below hbd) hn2 htlc (fun hr9 => ?_)
          simp only [Act.put, List.setIfInBounds_toArray, List.set_cons_zero, List.set_cons_succ]
          rw [HPRE.out] at hr9
          refine can_str rfl rfl rfl rfl (hr9.more hb8'.size) (Nat.le_refl _) ?_
          simp only [Act.put, List.setIfInBounds_toArray, List.set_cons_zero, List.set_cons_succ]
          refine can_pure rfl rfl rfl (exec_seq rfl rfl) ?_
          simp only [Act.put, List.setIfInBounds_toArray, List.set_cons_zero, List.set_cons_succ]
          repeat ((first | (refine can_pure (v := ?_) rfl rfl rfl ?_ ?_; rotate_left; · (intro w'; go_simp; try with_reducible rfl)) | (refine can_skip rfl rfl rfl ?_)); simp only [Act.put, List.setIfInBounds_toArray, List.set_cons_zero, List.set_cons_succ])
          refine can_done ?_
          go_wp2
          go_ret
          exact ⟨rfl, hbd⟩
        · have hz : uN ts 0 = 0 ∧ uTo ts 0 = 0 := by
            have e1 : uN ts 0 = (utk ts).1 := uN_in (p := 0) (by omega)
            have e2 : uTo ts 0 = ((utk ts).2.1 : Int) := by have := uTo_in (xs := ts) (p := 0) (by omega); simpa using this
            rw [e1, e2]
            rcases utk_err h0 with e | e <;> rw [e] <;> exact ⟨rfl, rfl⟩
          have e3 : uE ts 0 ≠ 0 := by
            have := uE_in (xs := ts) (p := 0) (by omega)
            rw [List.drop_zero] at this
            rw [show uE ts 0 = (utk ts).2.2 from this]; exact h0
          rw [hz.1, hz.2]
          clear hz h0
          generalize uE ts 0 = EE at e3 ⊢
          have e4 : ((EE : Int) != 0) = true := by simp; exact e3
          clear e3
          go_wp2_with fail
          go_ret
          exact ⟨rfl, hb7'⟩
      · have hch' : isCh a0 = false := by simpa using hch
        have HCH := Lib.hid hch'
        clear hch hch'
        go_enter Try.func8, Try.ntmps8
        go_wp2_with fail
        refine (works_any _).mono ?_
        rintro e w3 ⟨rfl, hb3⟩
        go_wp2_with (at_builtin; refine wpl_app rfl rfl (Own.lit w3 w.heap.size [] hb3.size (by simp)) rfl ((hr.below hb3).alloc hb3.size _) (by omega) (by have := hb3.size; simp; omega) ?_; intro A4 c4 w4 ho4 hb4; simp only [Nat.zero_add, List.nil_append] at ho4; have hb4' := (hb3.al hB (.cells #[] 5)).trans hb4)
        refine (put_not A4 _ c4 a0 (by omega) (by omega) HCH.out w4).mono ?_
        rintro e w5 ⟨rfl, hb5⟩
        have hb5' := hb4'.thn hB hb5
        go_wp2_with fail
        refine (take_any a2 len2 cap2 w.heap.size 0 ts w5 (htr.below hb5') (by omega) (by omega) (by omega)).mono ?_
        rintro e w' ⟨rfl, rfl⟩
        by_cases h0 : (utk ts).2.2 = 0
        · obtain ⟨q1, q2, q3, q4⟩ := utk_ok h0
          have hp := utk_pos h0
          have e1 : uN ts 0 = (utk ts).1 := uN_in (p := 0) (by omega)
          have e2 : uTo ts 0 = ((utk ts).2.1 : Int) := by have := uTo_in (xs := ts) (p := 0) (by omega); simpa using this
          have e3 : uE ts 0 = 0 := (uE_in (p := 0) (by omega)).trans h0
          rw [e1, e2, e3]
          clear e1 e2 e3
          generalize (utk ts).1 = D at q1 q2 q3 q4 ⊢
          generalize (utk ts).2.1 = n at q3 q4 hp ⊢
          have hn2 : n ≤ len2 := by omega
          have hn2i : (n : Int) ≤ len2 := by omega
          have hpre : ts.take n = uput D := by rw [← q3, q4, List.take_left]
          have HPRE := Lib.hid hpre
          have HQ4 := Lib.hid q4
          have HQ1 := Lib.hid q1
          clear q1 q3 q4 hpre h0 hp
          go_wp2_with fail
          refine (put_yes none 0 0 w5.heap.size D [] HQ1.out w5 (Own.nil _ _) (Nat.le_refl _) (by omega)).mono ?_
          rintro e w8 ⟨A8, n8, c8, rfl, hn8, ho8, hb8⟩
          rw [List.nil_append] at ho8
          have hb8' := hb5'.thn hB hb8
          clear hn8
          go_wp2_with fail
          refine region_can [0, 1, 2, 3, 4, 5, 6, 7, 8, 9, 10, 11] [] (by kernel_rfl) (by kernel_rfl) (by simp) (by kernel_rfl) (fun _ _ d _ _ h => by cases d <;> exact h) (fun wd hd hds => ?_)
          have Hds := Lib.hid hds
          clear hds
          have hbd := hb8'.thn hB hd
          repeat ((first | (refine can_pure (v := ?_) rfl rfl rfl ?_ ?_; rotate_left; · (intro w'; go_simp; try with_reducible rfl)) | (refine can_skip rfl rfl rfl ?_)); simp only [Act.put, List.setIfInBounds_toArray, List.set_cons_zero, List.set_cons_succ])
          refine can_str rfl rfl rfl rfl (ho8.rd.below hd) (by omega) ?_
          simp only [Act.put, List.setIfInBounds_toArray, List.set_cons_zero, List.set_cons_succ]
          repeat ((first | (refine can_pure (v := ?_) rfl rfl rfl ?_ ?_; rotate_left; · (intro w'; go_simp; try with_reducible rfl)) | (refine can_skip rfl rfl rfl ?_)); simp only [Act.put, List.setIfInBounds_toArray, List.set_cons_zero, List.set_cons_succ])
          refine can_upto rfl rfl rfl rfl rfl (htr.below hbd) hn2 htlc (fun hr9 => ?_)
          simp only [Act.put, List.setIfInBounds_toArray, List.set_cons_zero, List.set_cons_succ]
          rw [HPRE.out] at hr9
          refine can_str rfl rfl rfl rfl (hr9.more hb8'.size) (Nat.le_refl _) ?_
          simp only [Act.put, List.setIfInBounds_toArray, List.set_cons_zero, List.set_cons_succ]
          refine can_pure rfl rfl rfl (exec_seq rfl rfl) ?_
          simp only [Act.put, List.setIfInBounds_toArray, List.set_cons_zero, List.set_cons_succ]
          repeat ((first | (refine can_pure (v := ?_) rfl rfl rfl ?_ ?_; rotate_left; · (intro w'; go_simp; try with_reducible rfl)) | (refine can_skip rfl rfl rfl ?_)); simp only [Act.put, List.setIfInBounds_toArray, List.set_cons_zero, List.set_cons_succ])
          refine can_done ?_
          go_wp2
          go_ret
          exact ⟨rfl, hbd⟩
        · have hz : uN ts 0 = 0 ∧ uTo ts 0 = 0 := by
            have e1 : uN ts 0 = (utk ts).1 := uN_in (p := 0) (by omega)
            have e2 : uTo ts 0 = ((utk ts).2.1 : Int) := by have := uTo_in (xs := ts) (p := 0) (by omega); simpa using this
            rw [e1, e2]
            rcases utk_err h0 with e | e <;> rw [e] <;> exact ⟨rfl, rfl⟩
          have e3 : uE ts 0 ≠ 0 := by
            have := uE_in (xs := ts) (p := 0) (by omega)
            rw [List.drop_zero] at this
            rw [show uE ts 0 = (utk ts).2.2 from this]; exact h0
          rw [hz.1, hz.2]
          clear hz h0
          generalize uE ts 0 = EE at e3 ⊢
          have e4 : ((EE : Int) != 0) = true := by simp; exact e3
          clear e3
          go_wp2_with fail
          go_ret
          exact ⟨rfl, hb5'⟩
    · go_enter Try.func8, Try.ntmps8
      go_wp2_with fail
      refine (works_any _).mono ?_
      rintro e w3 ⟨rfl, hb3⟩
      go_wp2_with fail
      go_ret
      exact ⟨rfl, hb3⟩
  · go_enter Try.func8, Try.ntmps8
    go_wp2_with fail
    refine (works_any _).mono ?_
    rintro e w3 ⟨rfl, hb3⟩
    go_wp2_with fail
    go_ret
    exact ⟨rfl, hb3⟩

/-! ### THE ROW's STEP: WRITTEN OUT: LEAVE IT -/
set_option maxRecDepth 100000 in
theorem lifted (os : Os) (started : os.Started) (H : Type) (enc : TypeId × Value → H) :
    ReturnsInHanded {} Try.checked os 8 .any (Rows.utfBackSpec.pre6 enc Try.prog Try.f8 Rows.utfBackRow.domain false) (Rows.utfBackSpec.post enc Try.prog Try.f8 false true false false) := by
  refine returnsInHanded_of_change (C := Try.checked) own started (by kernel_rfl) Try.func8
    (ChangeSpec.witness6 (enc := enc) (C := Try.checked) false ⟨#[], #[.int .i32 0, .slice none 0 0, .slice none 0 0], []⟩ 8 (by kernel_rfl) (by kernel_rfl) (by kernel_rfl) (by kernel_rfl)) ?_
  intro W base args ds gs before hval0 hW hcnd _
  have hval : ∀ (j : Nat) t v, Try.f8.params[j]? = some t → args[j]? = some v → Value.okWide Try.prog W .any base t v := hval0
  have hW' := hW
  obtain ⟨p, q, hA0, hV, rfl, hfz, hnd⟩ := hW
  have hA : DataW.TrodAll enc Try.prog W 0 (fun _ => true) true Try.f8.params.toList args.toList ds p := hA0
  rw [Try.params8] at hA hval
  obtain ⟨v0, vs0, d0, ds0, p0, q0, hargs, rfl, rfl, h0, r0⟩ := trodAll_cons hA
  obtain ⟨v1, vs1, d1, ds1, p1, q1, rfl, rfl, rfl, h1, r1⟩ := trodAll_cons r0
  obtain ⟨v2, vs2, d2, ds2, p2, q2, rfl, rfl, rfl, h2, r2⟩ := trodAll_cons r1
  obtain ⟨rfl, rfl, rfl⟩ := trodAll_nil r2
  obtain rfl : args = #[v0, v1, v2] := by cases args; simp_all
  obtain ⟨rfl, rfl⟩ := trodVars_none hV
  obtain ⟨a0, rfl, rfl, rfl, w0⟩ := open_int Try.underlying21 (hval 0 21 v0 rfl rfl) h0
  obtain ⟨a1, len1, cap1, rfl⟩ := okWide_slice Try.underlying22 (hval 1 22 v1 rfl rfl)
  have k1 := h1
  have lt1 : ∀ x ∈ p1, x.block < W.heap.size := by obtain ⟨m, hm⟩ := k1; exact DataW.trod_lt m _ _ _ hm
  obtain ⟨z1, w1⟩ : ∃ zs, IsRow .u8 W a1 len1 cap1 zs := by
    obtain ⟨fuel, hf⟩ := h1
    rcases open_ints Try.underlying22 Try.underlying5 (by kernel_rfl) hf with ⟨hcs, _⟩ | ⟨x, l, c, zs, hcs, _, hl, hm, hz, _, hcell, hwz⟩
    · simp [Value.cells] at hcs
      obtain ⟨rfl, rfl, rfl⟩ := hcs
      exact ⟨[], .inl ⟨rfl, rfl, rfl, rfl⟩⟩
    · simp [Value.cells] at hcs
      obtain ⟨rfl, rfl, rfl⟩ := hcs
      exact ⟨zs, .inr ⟨_, rfl, hl, hm, by simpa using hz, hcell, hwz⟩⟩
  obtain ⟨a2, len2, cap2, rfl⟩ := okWide_slice Try.underlying22 (hval 2 22 v2 rfl rfl)
  have k2 := h2
  have lt2 : ∀ x ∈ p2, x.block < W.heap.size := by obtain ⟨m, hm⟩ := k2; exact DataW.trod_lt m _ _ _ hm
  obtain ⟨z2, w2⟩ : ∃ zs, IsRow .u8 W a2 len2 cap2 zs := by
    obtain ⟨fuel, hf⟩ := h2
    rcases open_ints Try.underlying22 Try.underlying5 (by kernel_rfl) hf with ⟨hcs, _⟩ | ⟨x, l, c, zs, hcs, _, hl, hm, hz, _, hcell, hwz⟩
    · simp [Value.cells] at hcs
      obtain ⟨rfl, rfl, rfl⟩ := hcs
      exact ⟨[], .inl ⟨rfl, rfl, rfl, rfl⟩⟩
    · simp [Value.cells] at hcs
      obtain ⟨rfl, rfl, rfl⟩ := hcs
      exact ⟨zs, .inr ⟨_, rfl, hl, hm, by simpa using hz, hcell, hwz⟩⟩
  clear hA0 hval0
  refine (walk a0 a1 len1 cap1 z1 a2 len2 cap2 z2 W w0 w1 w2).mono fun e W' ⟨he, bel⟩ => ?_
  subst he
  exact ⟨_, rfl, _, _, _, [], _, [], hW', trodAll_mk1 (shut_bool Try.underlying4 _), (trodAll_cons_mk (shut_int Try.underlying21 w0) (trodAll_cons_mk (Below.trod laidOut (by kernel_rfl) (of_decide_eq_true (by kernel_rfl)) k1 bel lt1) (trodAll_cons_mk (Below.trod laidOut (by kernel_rfl) (of_decide_eq_true (by kernel_rfl)) k2 bel lt2) trodAll_mk0))), rfl, bel.frame _, fun h => by cases h⟩

theorem over : Rows.utfBackRow.holds Try.pinned (OpenSpec.ofChange Rows.utfBackSpec) :=
  OpenClaim.holds_of_wide 8 Try.f8 rfl rfl rfl rfl rfl rfl rfl ⟨rfl, rfl, rfl, rfl, rfl⟩ rfl rfl rfl rfl rfl (by kernel_rfl) Try.func8 (by kernel_rfl)
    (of_decide_eq_true (by kernel_rfl)) (by unfold Func.isWrapper; first | (rw [if_pos (by decide +kernel)]; kernel_rfl) | (rw [if_neg (by decide +kernel)]; exact ⟨rfl, rfl⟩))
    (fun os started H enc _ => lifted os started H enc)

/-- ████ THE STATEMENT ████ -/
theorem proved : Rows.UtfBackSaid := over
#print axioms proved
end Go.Proofs.Ytodgnlhakafhoaa.utfBack
