/- What is proved: for every input the Go function avocetlaw04.WirePuts returns true and leaves its arguments as they were. Conditions: none beyond the given statement's own. -/
import Derived.Test.YtodgnlhakafhoaaRows
import Derived.WalkKit
import Derived.ProofKit
import Derived.OpenShut
import Derived.Test.YtodgnlhakafhoaaWirP
import Derived.Test.YtodgnlhakafhoaaCanF
import Derived.BigQuiet
import Derived.Deep.QuietTactic
import Derived.ShutString
import Derived.ChangeOld
import Derived.Below
namespace Go.Proofs.Ytodgnlhakafhoaa.wirePuts
open Go.ChangeShapes Go.WideShapes Go.ChangeAt Go.RowKit
open Num Mem Can Wr
open Go.ChangeMaps (open_string shut_string)
set_option linter.unusedVariables false

theorem own : ownKnob Try.prog.godebug = none := by kernel_rfl
theorem laidOut : laidOutB Try.prog = true := by kernel_rfl

/-- WHAT THE WALK IS TOLD OF A SLICE OF INTEGERS THAT CAME IN: it is nil; or it leads to a row of 'cap' cells, the numbers 'zs' (the first 'len' are its elements, the rest its spare room), each fitting its kind. -/
def IsRow (k : IntKind) (w : World) (a : Option Addr) (len cap : Nat) (zs : List Int) : Prop :=
  (a = none ∧ len = 0 ∧ cap = 0 ∧ zs = []) ∨
  ∃ x, a = some x ∧ len ≤ cap ∧ cap ≤ maxLen ∧ zs.length = cap ∧ (∀ i, i < zs.length → w.cell? (x.add i) = some (.int k (zs.getD i 0))) ∧ ∀ n ∈ zs, (Lit.int k n).wf = true

/-! ### STEP 1: THE WALK: the Go text returns true, AND WRITES NOTHING THAT WAS THERE: 'Below w.heap.size w w'' (Derived/Below.lean: '.refl', '.alloc', '.drew', '.setCell' at a new block, '.trans'). Open each 'IsRow' by 'rcases' AHEAD of 'go_enter'; part every test ahead of the walk. -/
set_option maxRecDepth 100000 in
set_option maxHeartbeats 8000000 in
theorem walk (a0 : Option Addr) (len0 cap0 : Nat) (z0 : List Int) (a1 : Int) (a2 : Int) (a3 : Int) (a4 : Option Addr) (len4 cap4 : Nat) (z4 : List Int) (w : World) (w0 : IsRow .u8 w a0 len0 cap0 z0) (w1 : (Lit.int .i64 a1).wf = true) (w2 : (Lit.int .u64 a2).wf = true) (w3 : (Lit.int .i64 a3).wf = true) (w4 : IsRow .u8 w a4 len4 cap4 z4) :
    Calls Try.prog 11 #[.slice a0 len0 cap0, .int .i64 a1, .int .u64 a2, .int .i64 a3, .slice a4 len4 cap4] w fun e w' => e = .returned (.bool true) ∧ Below w.heap.size w w' := by
  obtain ⟨xs, hr, hlc, hlm⟩ := rd_row w0
  obtain ⟨a1l, a1h⟩ := Fits.i64 w1
  obtain ⟨a2l, a2h⟩ := Fits.u64 w2
  obtain ⟨a3l, a3h⟩ := Fits.i64 w3
  obtain ⟨ys, htr, htlc, htlm⟩ := rd_row w4
  obtain ⟨u, rfl⟩ := Int.eq_ofNat_of_zero_le a2l
  unfold maxLen at hlm htlm
  have hB : w.heap.size ≤ w.heap.size := Nat.le_refl _
  clear w0 w1 w2 w3 w4
  by_cases h3 : len0 ≤ 3000
  · by_cases h4 : len4 ≤ 3000
    · have hl := hr.len
      have htl := htr.len
      obtain ⟨M, hM⟩ : ∃ M : Nat, (M : Int) = min (max a3 0) 8 := ⟨(min (max a3 0) 8).toNat, by omega⟩
      have hpby : (pby ys).length ≤ 4000 := by
        unfold pby
        have h5 := Vr.vput_len (zig (ys.length : Int)).toNat
        have h6 := parts_le (u := (zig (ys.length : Int)).toNat) (by have := zig_le (ys.length : Int) (by omega) (by omega); omega)
        rw [List.length_append, h5]; omega
      have hM8 : M ≤ 8 := by omega
      have HM := Lib.hid hM
      clear hM
      by_cases h0 : a1 = 0
      · have htb : (0 : Int) = ((tb a1).toNat : Int) := by subst h0; rfl
        have HTB := Lib.hid htb
        clear htb
        have h02 : (a1 != 0) = false := by simp [h0]
        clear h0
        go_enter Try.func11, Try.ntmps11
        go_wp2_with fail
        refine region_plan (Plan.of [0, 2, 5, 6, 7] (.fork 1 (.fork 3 (Plan.of [4, 8, 9, 10, 11, 12, 13, 15, 16, 19, 20, 21, 22, 14, 17, 18, 23, 24, 25, 26, 27, 28, 29, 31, 34, 35, 36, 30, 32, 33, 37, 38, 39, 40, 41, 42, 43, 44, 45] .nil) 8 (.fork 3 (Plan.of [4, 9, 10, 11, 12, 13, 15, 16, 19, 20, 21, 22, 14, 17, 18, 23, 24, 25, 26, 27, 28, 29, 31, 34, 35, 36, 30, 32, 33, 37, 38, 39, 40, 41, 42, 43, 44, 45] .nil) 9 (Plan.of [10, 3, 4, 11, 12, 13, 15, 16, 19, 20, 21, 22, 14, 17, 18, 23, 24, 25, 26, 27, 28, 29, 31, 34, 35, 36, 30, 32, 33, 37, 38, 39, 40, 41, 42, 43, 44, 45] .nil))) 8 (Plan.of [9, 10, 1, 3, 4, 11, 12, 13, 15, 16, 19, 20, 21, 22, 14, 17, 18, 23, 24, 25, 26, 27, 28, 29, 31, 34, 35, 36, 30, 32, 33, 37, 38, 39, 40, 41, 42, 43, 44, 45] .nil))) [1, 3, 8, 14, 17, 23, 30, 32, 37, 43] (by kernel_rfl) (by kernel_rfl) (by decide +kernel) (by kernel_rfl) (fun _ _ d _ _ h => by cases d <;> exact h) (fun wd hd hds => ?_)
        have Hds := Lib.hid hds
        clear hds
        repeat ((refine pan_pure (v := ?_) rfl rfl rfl ?_ ?_; rotate_left; · (intro w'; go_simp; try with_reducible rfl)); simp only [Act.put, List.setIfInBounds_toArray, List.set_cons_zero, List.set_cons_succ])
        refine pan_read rfl rfl rfl w.heap.size (by omega) _ (fun w' hb => exec_str rfl ((hr.below hd).below hb)) ?_
        simp only [Act.put, List.setIfInBounds_toArray, List.set_cons_zero, List.set_cons_succ]
        repeat ((refine pan_pure (v := ?_) rfl rfl rfl ?_ ?_; rotate_left; · (intro w'; go_simp; try with_reducible rfl)); simp only [Act.put, List.setIfInBounds_toArray, List.set_cons_zero, List.set_cons_succ])
        refine pan_fork rfl rfl wd.heap.size hd.size (fun Q1 hQ1 => ?_) (fun Q1 hQ1 => ?_)
        · go_wp2_with fail
          refine (own_any a0 len0 cap0 w.heap.size xs _ (hr.below hd) hd.size (by omega)).mono ?_
          rintro e w2 ⟨A2, c2, rfl, ho2, hb2⟩
          have hd2 := hd.thn hB hb2
          go_wp2_with fail
          refine hQ1 _ _ hb2 ?_
          refine pan_fork rfl rfl wd.heap.size (Nat.le_refl _) (fun Q1 hQ1 => ?_) (fun Q1 hQ1 => ?_)
          · go_wp2_with fail
            refine (putbool_any A2 len0 c2 wd.heap.size a1 xs w2 ho2 hb2.size (by omega)).mono ?_
            rintro e w3 ⟨A3, c3, rfl, ho3, hb3⟩
            have hd3 := hd2.trans (hb3.mono hd.size)
            have hz3 : wd.heap.size ≤ w3.heap.size := (hb2.trans hb3).size
            go_wp2_with fail
            refine hQ1 _ _ hb3 ?_
            refine plan_line [4, 8, 9, 10, 11, 12, 13, 15, 16, 19, 20, 21, 22, 14, 17, 18, 23, 24, 25, 26, 27, 28, 29, 31, 34, 35, 36, 30, 32, 33, 37, 38, 39, 40, 41, 42, 43, 44, 45] _ _ _ ?_
            refine can_str rfl rfl rfl rfl ho3.rd hz3 ?_
            simp only [Act.put, List.setIfInBounds_toArray, List.set_cons_zero, List.set_cons_succ]
            refine can_make rfl rfl w3.heap.size (Nat.le_refl _) (fun Q1 hQ1 => ?_)
            go_wp2_with fail
            refine hQ1 _ _ ((Below.refl _ _).alloc (Nat.le_refl _) _) ?_
            refine can_str rfl rfl rfl rfl ((rd_val w3 (tb a1) 0 HTB.out).more (B' := (w3.alloc (.cells #[.int .u8 0] 5)).heap.size) (by simp)) (by simp) ?_
            simp only [Act.put, List.setIfInBounds_toArray, List.set_cons_zero, List.set_cons_succ]
            refine can_pure rfl rfl rfl (exec_cat rfl rfl (by simp; omega)) ?_
            simp only [Act.put, List.setIfInBounds_toArray, List.set_cons_zero, List.set_cons_succ]
            have hW := hd3.al hB (.cells #[.int .u8 0] 5)
            refine can_pure rfl rfl rfl (exec_seq rfl rfl) ?_
            simp only [Act.put, List.setIfInBounds_toArray, List.set_cons_zero, List.set_cons_succ]
            repeat ((first | (refine can_pure (v := ?_) rfl rfl rfl ?_ ?_; rotate_left; · (intro w'; go_simp; try with_reducible rfl)) | (refine can_skip rfl rfl rfl ?_)); simp only [Act.put, List.setIfInBounds_toArray, List.set_cons_zero, List.set_cons_succ])
            refine can_str rfl rfl rfl rfl ((hr.below hW).more hW.size) (Nat.le_refl _) ?_
            simp only [Act.put, List.setIfInBounds_toArray, List.set_cons_zero, List.set_cons_succ]
            repeat ((first | (refine can_pure (v := ?_) rfl rfl rfl ?_ ?_; rotate_left; · (intro w'; go_simp; try with_reducible rfl)) | (refine can_skip rfl rfl rfl ?_)); simp only [Act.put, List.setIfInBounds_toArray, List.set_cons_zero, List.set_cons_succ])
            refine can_make rfl rfl (w3.alloc (.cells #[.int .u8 0] 5)).heap.size (Nat.le_refl _) (fun Q1 hQ1 => ?_)
            go_wp2_with fail
            refine (own_any a0 len0 cap0 w.heap.size xs _ (hr.below hW) hW.size (by omega)).mono ?_
            rintro e r2 ⟨B2, d2, rfl, ko2, kb2⟩
            go_wp2_with fail
            refine hQ1 _ _ kb2 ?_
            refine can_make rfl rfl (w3.alloc (.cells #[.int .u8 0] 5)).heap.size (Nat.le_refl _) (fun Q1 hQ1 => ?_)
            go_wp2_with fail
            refine (putbits_any B2 len0 d2 (w3.alloc (.cells #[.int .u8 0] 5)).heap.size u a3 M xs r2 ko2 kb2.size (by omega) (by omega) HM.out).mono ?_
            rintro e r3 ⟨B3, d3, rfl, ko3, kb3⟩
            go_wp2_with fail
            refine hQ1 _ _ kb3 ?_
            have hb3 := hW.thn hB (kb2.trans kb3)
            have kz3 : (w3.alloc (.cells #[.int .u8 0] 5)).heap.size ≤ r3.heap.size := (kb2.trans kb3).size
            refine can_str rfl rfl rfl rfl ko3.rd kz3 ?_
            simp only [Act.put, List.setIfInBounds_toArray, List.set_cons_zero, List.set_cons_succ]
            refine can_make rfl rfl r3.heap.size (Nat.le_refl _) (fun Q1 hQ1 => ?_)
            go_wp2_with fail
            refine (refputbits_any u a3 M r3 (by omega) HM.out).mono ?_
            rintro e r4 ⟨B4, d4, rfl, ko4, kb4⟩
            go_wp2_with fail
            refine hQ1 _ _ kb4 ?_
            have hb4 := hb3.thn hB kb4
            refine can_str rfl rfl rfl rfl ko4.rd kb4.size ?_
            simp only [Act.put, List.setIfInBounds_toArray, List.set_cons_zero, List.set_cons_succ]
            refine can_pure rfl rfl rfl (exec_cat rfl rfl (by have := lbs_len u M; omega)) ?_
            simp only [Act.put, List.setIfInBounds_toArray, List.set_cons_zero, List.set_cons_succ]
            refine can_pure rfl rfl rfl (exec_seq rfl rfl) ?_
            simp only [Act.put, List.setIfInBounds_toArray, List.set_cons_zero, List.set_cons_succ]
            repeat ((first | (refine can_pure (v := ?_) rfl rfl rfl ?_ ?_; rotate_left; · (intro w'; go_simp; try with_reducible rfl)) | (refine can_skip rfl rfl rfl ?_)); simp only [Act.put, List.setIfInBounds_toArray, List.set_cons_zero, List.set_cons_succ])
            refine can_str rfl rfl rfl rfl ((hr.below hb4).more hb4.size) (Nat.le_refl _) ?_
            simp only [Act.put, List.setIfInBounds_toArray, List.set_cons_zero, List.set_cons_succ]
            repeat ((first | (refine can_pure (v := ?_) rfl rfl rfl ?_ ?_; rotate_left; · (intro w'; go_simp; try with_reducible rfl)) | (refine can_skip rfl rfl rfl ?_)); simp only [Act.put, List.setIfInBounds_toArray, List.set_cons_zero, List.set_cons_succ])
            refine can_make rfl rfl r4.heap.size (Nat.le_refl _) (fun Q1 hQ1 => ?_)
            go_wp2_with fail
            refine (own_any a0 len0 cap0 w.heap.size xs _ (hr.below hb4) hb4.size (by omega)).mono ?_
            rintro e r5 ⟨B5, d5, rfl, ko5, kb5⟩
            have hb5 := hb4.thn hB kb5
            go_wp2_with fail
            refine hQ1 _ _ kb5 ?_
            refine can_make rfl rfl r4.heap.size (Nat.le_refl _) (fun Q1 hQ1 => ?_)
            go_wp2_with fail
            refine (putbytes_any B5 a4 len0 d5 len4 cap4 r4.heap.size w.heap.size xs ys r5 ko5 kb5.size (htr.below hb5) hb4.size (by omega) (by omega)).mono ?_
            rintro e r6 ⟨B6, m6, d6, rfl, ko6, kb6⟩
            have hb6 := hb5.trans (kb6.mono hb4.size)
            have kz6 : r4.heap.size ≤ r6.heap.size := (kb5.trans kb6).size
            go_wp2_with fail
            refine hQ1 _ _ kb6 ?_
            refine can_str rfl rfl rfl rfl ko6.rd kz6 ?_
            simp only [Act.put, List.setIfInBounds_toArray, List.set_cons_zero, List.set_cons_succ]
            refine can_make rfl rfl r6.heap.size (Nat.le_refl _) (fun Q1 hQ1 => ?_)
            go_wp2_with fail
            refine (refputbytes_any a4 len4 cap4 w.heap.size ys r6 (htr.below hb6) hb6.size (by omega)).mono ?_
            rintro e r7 ⟨B7, m7, d7, rfl, ko7, kb7⟩
            have hb7 := hb6.thn hB kb7
            go_wp2_with fail
            refine hQ1 _ _ kb7 ?_
            refine can_str rfl rfl rfl rfl ko7.rd kb7.size ?_
            simp only [Act.put, List.setIfInBounds_toArray, List.set_cons_zero, List.set_cons_succ]
            refine can_pure rfl rfl rfl (exec_cat rfl rfl (by omega)) ?_
            simp only [Act.put, List.setIfInBounds_toArray, List.set_cons_zero, List.set_cons_succ]
            refine can_pure rfl rfl rfl (exec_seq rfl rfl) ?_
            simp only [Act.put, List.setIfInBounds_toArray, List.set_cons_zero, List.set_cons_succ]
            repeat ((first | (refine can_pure (v := ?_) rfl rfl rfl ?_ ?_; rotate_left; · (intro w'; go_simp; try with_reducible rfl)) | (refine can_skip rfl rfl rfl ?_)); simp only [Act.put, List.setIfInBounds_toArray, List.set_cons_zero, List.set_cons_succ])
            refine can_make rfl rfl r7.heap.size (Nat.le_refl _) (fun Q1 hQ1 => ?_)
            go_wp2_with fail
            refine (works_any _).mono ?_
            rintro e r8 ⟨rfl, kb8⟩
            have hb8 := hb7.thn hB kb8
            go_wp2_with fail
            refine hQ1 _ _ kb8 ?_
            repeat ((first | (refine can_pure (v := ?_) rfl rfl rfl ?_ ?_; rotate_left; · (intro w'; go_simp; try with_reducible rfl)) | (refine can_skip rfl rfl rfl ?_)); simp only [Act.put, List.setIfInBounds_toArray, List.set_cons_zero, List.set_cons_succ])
            refine can_done ?_
            go_wp2
            go_ret
            exact ⟨rfl, hb8⟩
          · go_wp2_with fail
            refine hQ1 _ _ ((Below.refl _ _).alloc hb2.size _) ?_
            refine pan_fork rfl rfl wd.heap.size (Nat.le_refl _) (fun Q1 hQ1 => ?_) (fun Q1 hQ1 => ?_)
            · go_wp2_with fail
              refine (putbool_k A2 len0 c2 wd.heap.size a1 xs _ w2.heap.size (.int .u8 0) (ho2.alloc _) (by have := hb2.size; simp; omega) (by omega) (Bx.new ho2 _ _)).mono ?_
              rintro e w3 ⟨A3, c3, rfl, ho3, hb3, hx3⟩
              have hd3 := (hd2.al hB (.cells #[.int .u8 0] 5)).trans (hb3.mono hd.size)
              have hz2 := hb2.size
              have hz3 := hb3.size
              simp only [World.size_alloc] at hz3
              have hX3 := rd_bx (tb a1) 0 HTB.out hx3
              go_wp2_with fail
              refine hQ1 _ _ hb3 ?_
              refine plan_line [4, 9, 10, 11, 12, 13, 15, 16, 19, 20, 21, 22, 14, 17, 18, 23, 24, 25, 26, 27, 28, 29, 31, 34, 35, 36, 30, 32, 33, 37, 38, 39, 40, 41, 42, 43, 44, 45] _ _ _ ?_
              refine can_str rfl rfl rfl rfl ho3.rd (by omega) ?_
              simp only [Act.put, List.setIfInBounds_toArray, List.set_cons_zero, List.set_cons_succ]
              refine can_str rfl rfl rfl rfl hX3 (Nat.le_refl _) ?_
              simp only [Act.put, List.setIfInBounds_toArray, List.set_cons_zero, List.set_cons_succ]
              refine can_pure rfl rfl rfl (exec_cat rfl rfl (by simp; omega)) ?_
              simp only [Act.put, List.setIfInBounds_toArray, List.set_cons_zero, List.set_cons_succ]
              refine can_pure rfl rfl rfl (exec_seq rfl rfl) ?_
              simp only [Act.put, List.setIfInBounds_toArray, List.set_cons_zero, List.set_cons_succ]
              repeat ((first | (refine can_pure (v := ?_) rfl rfl rfl ?_ ?_; rotate_left; · (intro w'; go_simp; try with_reducible rfl)) | (refine can_skip rfl rfl rfl ?_)); simp only [Act.put, List.setIfInBounds_toArray, List.set_cons_zero, List.set_cons_succ])
              refine can_str rfl rfl rfl rfl ((hr.below hd3).more hd3.size) (Nat.le_refl _) ?_
              simp only [Act.put, List.setIfInBounds_toArray, List.set_cons_zero, List.set_cons_succ]
              repeat ((first | (refine can_pure (v := ?_) rfl rfl rfl ?_ ?_; rotate_left; · (intro w'; go_simp; try with_reducible rfl)) | (refine can_skip rfl rfl rfl ?_)); simp only [Act.put, List.setIfInBounds_toArray, List.set_cons_zero, List.set_cons_succ])
              refine can_make rfl rfl (w3).heap.size (Nat.le_refl _) (fun Q1 hQ1 => ?_)
              go_wp2_with fail
              refine (own_any a0 len0 cap0 w.heap.size xs _ (hr.below hd3) hd3.size (by omega)).mono ?_
              rintro e r2 ⟨B2, d2, rfl, ko2, kb2⟩
              go_wp2_with fail
              refine hQ1 _ _ kb2 ?_
              refine can_make rfl rfl (w3).heap.size (Nat.le_refl _) (fun Q1 hQ1 => ?_)
              go_wp2_with fail
              refine (putbits_any B2 len0 d2 (w3).heap.size u a3 M xs r2 ko2 kb2.size (by omega) (by omega) HM.out).mono ?_
              rintro e r3 ⟨B3, d3, rfl, ko3, kb3⟩
              go_wp2_with fail
              refine hQ1 _ _ kb3 ?_
              have hb3 := hd3.thn hB (kb2.trans kb3)
              have kz3 : (w3).heap.size ≤ r3.heap.size := (kb2.trans kb3).size
              refine can_str rfl rfl rfl rfl ko3.rd kz3 ?_
              simp only [Act.put, List.setIfInBounds_toArray, List.set_cons_zero, List.set_cons_succ]
              refine can_make rfl rfl r3.heap.size (Nat.le_refl _) (fun Q1 hQ1 => ?_)
              go_wp2_with fail
              refine (refputbits_any u a3 M r3 (by omega) HM.out).mono ?_
              rintro e r4 ⟨B4, d4, rfl, ko4, kb4⟩
              go_wp2_with fail
              refine hQ1 _ _ kb4 ?_
              have hb4 := hb3.thn hB kb4
              refine can_str rfl rfl rfl rfl ko4.rd kb4.size ?_
              simp only [Act.put, List.setIfInBounds_toArray, List.set_cons_zero, List.set_cons_succ]
              refine can_pure rfl rfl rfl (exec_cat rfl rfl (by have := lbs_len u M; omega)) ?_
              simp only [Act.put, List.setIfInBounds_toArray, List.set_cons_zero, List.set_cons_succ]
              refine can_pure rfl rfl rfl (exec_seq rfl rfl) ?_
              simp only [Act.put, List.setIfInBounds_toArray, List.set_cons_zero, List.set_cons_succ]
              repeat ((first | (refine can_pure (v := ?_) rfl rfl rfl ?_ ?_; rotate_left; · (intro w'; go_simp; try with_reducible rfl)) | (refine can_skip rfl rfl rfl ?_)); simp only [Act.put, List.setIfInBounds_toArray, List.set_cons_zero, List.set_cons_succ])
              refine can_str rfl rfl rfl rfl ((hr.below hb4).more hb4.size) (Nat.le_refl _) ?_
              simp only [Act.put, List.setIfInBounds_toArray, List.set_cons_zero, List.set_cons_succ]
              repeat ((first | (refine can_pure (v := ?_) rfl rfl rfl ?_ ?_; rotate_left; · (intro w'; go_simp; try with_reducible rfl)) | (refine can_skip rfl rfl rfl ?_)); simp only [Act.put, List.setIfInBounds_toArray, List.set_cons_zero, List.set_cons_succ])
              refine can_make rfl rfl r4.heap.size (Nat.le_refl _) (fun Q1 hQ1 => ?_)
              go_wp2_with fail
              refine (own_any a0 len0 cap0 w.heap.size xs _ (hr.below hb4) hb4.size (by omega)).mono ?_
              rintro e r5 ⟨B5, d5, rfl, ko5, kb5⟩
              have hb5 := hb4.thn hB kb5
              go_wp2_with fail
              refine hQ1 _ _ kb5 ?_
              refine can_make rfl rfl r4.heap.size (Nat.le_refl _) (fun Q1 hQ1 => ?_)
              go_wp2_with fail
              refine (putbytes_any B5 a4 len0 d5 len4 cap4 r4.heap.size w.heap.size xs ys r5 ko5 kb5.size (htr.below hb5) hb4.size (by omega) (by omega)).mono ?_
              rintro e r6 ⟨B6, m6, d6, rfl, ko6, kb6⟩
              have hb6 := hb5.trans (kb6.mono hb4.size)
              have kz6 : r4.heap.size ≤ r6.heap.size := (kb5.trans kb6).size
              go_wp2_with fail
              refine hQ1 _ _ kb6 ?_
              refine can_str rfl rfl rfl rfl ko6.rd kz6 ?_
              simp only [Act.put, List.setIfInBounds_toArray, List.set_cons_zero, List.set_cons_succ]
              refine can_make rfl rfl r6.heap.size (Nat.le_refl _) (fun Q1 hQ1 => ?_)
              go_wp2_with fail
              refine (refputbytes_any a4 len4 cap4 w.heap.size ys r6 (htr.below hb6) hb6.size (by omega)).mono ?_
              rintro e r7 ⟨B7, m7, d7, rfl, ko7, kb7⟩
              have hb7 := hb6.thn hB kb7
              go_wp2_with fail
              refine hQ1 _ _ kb7 ?_
              refine can_str rfl rfl rfl rfl ko7.rd kb7.size ?_
              simp only [Act.put, List.setIfInBounds_toArray, List.set_cons_zero, List.set_cons_succ]
              refine can_pure rfl rfl rfl (exec_cat rfl rfl (by omega)) ?_
              simp only [Act.put, List.setIfInBounds_toArray, List.set_cons_zero, List.set_cons_succ]
              refine can_pure rfl rfl rfl (exec_seq rfl rfl) ?_
              simp only [Act.put, List.setIfInBounds_toArray, List.set_cons_zero, List.set_cons_succ]
              repeat ((first | (refine can_pure (v := ?_) rfl rfl rfl ?_ ?_; rotate_left; · (intro w'; go_simp; try with_reducible rfl)) | (refine can_skip rfl rfl rfl ?_)); simp only [Act.put, List.setIfInBounds_toArray, List.set_cons_zero, List.set_cons_succ])
              refine can_make rfl rfl r7.heap.size (Nat.le_refl _) (fun Q1 hQ1 => ?_)
              go_wp2_with fail
              refine (works_any _).mono ?_
              rintro e r8 ⟨rfl, kb8⟩
              have hb8 := hb7.thn hB kb8
              go_wp2_with fail
              refine hQ1 _ _ kb8 ?_
              repeat ((first | (refine can_pure (v := ?_) rfl rfl rfl ?_ ?_; rotate_left; · (intro w'; go_simp; try with_reducible rfl)) | (refine can_skip rfl rfl rfl ?_)); simp only [Act.put, List.setIfInBounds_toArray, List.set_cons_zero, List.set_cons_succ])
              refine can_done ?_
              go_wp2
              go_ret
              exact ⟨rfl, hb8⟩
            · go_wp2_with (with_reducible refine wpl_str rfl rfl (rd_val w2 (tb a1) 0 HTB.out) ?_)
              refine hQ1 _ _ (Below.refl _ _) ?_
              refine plan_line [10, 3, 4, 11, 12, 13, 15, 16, 19, 20, 21, 22, 14, 17, 18, 23, 24, 25, 26, 27, 28, 29, 31, 34, 35, 36, 30, 32, 33, 37, 38, 39, 40, 41, 42, 43, 44, 45] _ _ _ ?_
              refine can_pure rfl rfl rfl (exec_cat rfl rfl (by simp; omega)) ?_
              simp only [Act.put, List.setIfInBounds_toArray, List.set_cons_zero, List.set_cons_succ]
              refine can_make rfl rfl wd.heap.size (Nat.le_refl _) (fun Q1 hQ1 => ?_)
              go_wp2_with fail
              refine (putbool_any A2 len0 c2 wd.heap.size a1 xs _ (ho2.alloc _) (by have := hb2.size; simp; omega) (by omega)).mono ?_
              rintro e w3 ⟨A3, c3, rfl, ho3, hb3⟩
              have hd3 := (hd2.al hB (.cells #[.int .u8 0] 5)).trans (hb3.mono hd.size)
              have hz2 := hb2.size
              have hz3 := hb3.size
              simp only [World.size_alloc] at hz3
              go_wp2_with fail
              refine hQ1 _ _ hb3 ?_
              refine can_str rfl rfl rfl rfl ho3.rd (by omega) ?_
              simp only [Act.put, List.setIfInBounds_toArray, List.set_cons_zero, List.set_cons_succ]
              refine can_pure rfl rfl rfl (exec_seq rfl rfl) ?_
              simp only [Act.put, List.setIfInBounds_toArray, List.set_cons_zero, List.set_cons_succ]
              repeat ((first | (refine can_pure (v := ?_) rfl rfl rfl ?_ ?_; rotate_left; · (intro w'; go_simp; try with_reducible rfl)) | (refine can_skip rfl rfl rfl ?_)); simp only [Act.put, List.setIfInBounds_toArray, List.set_cons_zero, List.set_cons_succ])
              refine can_str rfl rfl rfl rfl ((hr.below hd3).more hd3.size) (Nat.le_refl _) ?_
              simp only [Act.put, List.setIfInBounds_toArray, List.set_cons_zero, List.set_cons_succ]
              repeat ((first | (refine can_pure (v := ?_) rfl rfl rfl ?_ ?_; rotate_left; · (intro w'; go_simp; try with_reducible rfl)) | (refine can_skip rfl rfl rfl ?_)); simp only [Act.put, List.setIfInBounds_toArray, List.set_cons_zero, List.set_cons_succ])
              refine can_make rfl rfl (w3).heap.size (Nat.le_refl _) (fun Q1 hQ1 => ?_)
              go_wp2_with fail
              refine (own_any a0 len0 cap0 w.heap.size xs _ (hr.below hd3) hd3.size (by omega)).mono ?_
              rintro e r2 ⟨B2, d2, rfl, ko2, kb2⟩
              go_wp2_with fail
              refine hQ1 _ _ kb2 ?_
              refine can_make rfl rfl (w3).heap.size (Nat.le_refl _) (fun Q1 hQ1 => ?_)
              go_wp2_with fail
              refine (putbits_any B2 len0 d2 (w3).heap.size u a3 M xs r2 ko2 kb2.size (by omega) (by omega) HM.out).mono ?_
              rintro e r3 ⟨B3, d3, rfl, ko3, kb3⟩
              go_wp2_with fail
              refine hQ1 _ _ kb3 ?_
              have hb3 := hd3.thn hB (kb2.trans kb3)
              have kz3 : (w3).heap.size ≤ r3.heap.size := (kb2.trans kb3).size
              refine can_str rfl rfl rfl rfl ko3.rd kz3 ?_
              simp only [Act.put, List.setIfInBounds_toArray, List.set_cons_zero, List.set_cons_succ]
              refine can_make rfl rfl r3.heap.size (Nat.le_refl _) (fun Q1 hQ1 => ?_)
              go_wp2_with fail
              refine (refputbits_any u a3 M r3 (by omega) HM.out).mono ?_
              rintro e r4 ⟨B4, d4, rfl, ko4, kb4⟩
              go_wp2_with fail
              refine hQ1 _ _ kb4 ?_
              have hb4 := hb3.thn hB kb4
              refine can_str rfl rfl rfl rfl ko4.rd kb4.size ?_
              simp only [Act.put, List.setIfInBounds_toArray, List.set_cons_zero, List.set_cons_succ]
              refine can_pure rfl rfl rfl (exec_cat rfl rfl (by have := lbs_len u M; omega)) ?_
              simp only [Act.put, List.setIfInBounds_toArray, List.set_cons_zero, List.set_cons_succ]
              refine can_pure rfl rfl rfl (exec_seq rfl rfl) ?_
              simp only [Act.put, List.setIfInBounds_toArray, List.set_cons_zero, List.set_cons_succ]
              repeat ((first | (refine can_pure (v := ?_) rfl rfl rfl ?_ ?_; rotate_left; · (intro w'; go_simp; try with_reducible rfl)) | (refine can_skip rfl rfl rfl ?_)); simp only [Act.put, List.setIfInBounds_toArray, List.set_cons_zero, List.set_cons_succ])
              refine can_str rfl rfl rfl rfl ((hr.below hb4).more hb4.size) (Nat.le_refl _) ?_
              simp only [Act.put, List.setIfInBounds_toArray, List.set_cons_zero, List.set_cons_succ]
              repeat ((first | (refine can_pure (v := ?_) rfl rfl rfl ?_ ?_; rotate_left; · (intro w'; go_simp; try with_reducible rfl)) | (refine can_skip rfl rfl rfl ?_)); simp only [Act.put, List.setIfInBounds_toArray, List.set_cons_zero, List.set_cons_succ])
              refine can_make rfl rfl r4.heap.size (Nat.le_refl _) (fun Q1 hQ1 => ?_)
              go_wp2_with fail
              refine (own_any a0 len0 cap0 w.heap.size xs _ (hr.below hb4) hb4.size (by omega)).mono ?_
              rintro e r5 ⟨B5, d5, rfl, ko5, kb5⟩
              have hb5 := hb4.thn hB kb5
              go_wp2_with fail
              refine hQ1 _ _ kb5 ?_
              refine can_make rfl rfl r4.heap.size (Nat.le_refl _) (fun Q1 hQ1 => ?_)
              go_wp2_with fail
              refine (putbytes_any B5 a4 len0 d5 len4 cap4 r4.heap.size w.heap.size xs ys r5 ko5 kb5.size (htr.below hb5) hb4.size (by omega) (by omega)).mono ?_
              rintro e r6 ⟨B6, m6, d6, rfl, ko6, kb6⟩
              have hb6 := hb5.trans (kb6.mono hb4.size)
              have kz6 : r4.heap.size ≤ r6.heap.size := (kb5.trans kb6).size
              go_wp2_with fail
              refine hQ1 _ _ kb6 ?_
              refine can_str rfl rfl rfl rfl ko6.rd kz6 ?_
              simp only [Act.put, List.setIfInBounds_toArray, List.set_cons_zero, List.set_cons_succ]
              refine can_make rfl rfl r6.heap.size (Nat.le_refl _) (fun Q1 hQ1 => ?_)
              go_wp2_with fail
              refine (refputbytes_any a4 len4 cap4 w.heap.size ys r6 (htr.below hb6) hb6.size (by omega)).mono ?_
              rintro e r7 ⟨B7, m7, d7, rfl, ko7, kb7⟩
              have hb7 := hb6.thn hB kb7
              go_wp2_with fail
              refine hQ1 _ _ kb7 ?_
              refine can_str rfl rfl rfl rfl ko7.rd kb7.size ?_
              simp only [Act.put, List.setIfInBounds_toArray, List.set_cons_zero, List.set_cons_succ]
              refine can_pure rfl rfl rfl (exec_cat rfl rfl (by omega)) ?_
              simp only [Act.put, List.setIfInBounds_toArray, List.set_cons_zero, List.set_cons_succ]
              refine can_pure rfl rfl rfl (exec_seq rfl rfl) ?_
              simp only [Act.put, List.setIfInBounds_toArray, List.set_cons_zero, List.set_cons_succ]
              repeat ((first | (refine can_pure (v := ?_) rfl rfl rfl ?_ ?_; rotate_left; · (intro w'; go_simp; try with_reducible rfl)) | (refine can_skip rfl rfl rfl ?_)); simp only [Act.put, List.setIfInBounds_toArray, List.set_cons_zero, List.set_cons_succ])
              refine can_make rfl rfl r7.heap.size (Nat.le_refl _) (fun Q1 hQ1 => ?_)
              go_wp2_with fail
              refine (works_any _).mono ?_
              rintro e r8 ⟨rfl, kb8⟩
              have hb8 := hb7.thn hB kb8
              go_wp2_with fail
              refine hQ1 _ _ kb8 ?_
              repeat ((first | (refine can_pure (v := ?_) rfl rfl rfl ?_ ?_; rotate_left; · (intro w'; go_simp; try with_reducible rfl)) | (refine can_skip rfl rfl rfl ?_)); simp only [Act.put, List.setIfInBounds_toArray, List.set_cons_zero, List.set_cons_succ])
              refine can_done ?_
              go_wp2
              go_ret
              exact ⟨rfl, hb8⟩
        · go_wp2_with fail
          refine hQ1 _ _ ((Below.refl _ _).alloc (Nat.le_refl _) _) ?_
          refine plan_line [9, 10, 1, 3, 4, 11, 12, 13, 15, 16, 19, 20, 21, 22, 14, 17, 18, 23, 24, 25, 26, 27, 28, 29, 31, 34, 35, 36, 30, 32, 33, 37, 38, 39, 40, 41, 42, 43, 44, 45] _ _ _ ?_
          have hd2 := hd.al hB (.cells #[.int .u8 0] 5)
          refine can_str rfl rfl rfl rfl ((rd_val wd (tb a1) 0 HTB.out).more (B' := (wd.alloc (.cells #[.int .u8 0] 5)).heap.size) (by simp)) (by simp) ?_
          simp only [Act.put, List.setIfInBounds_toArray, List.set_cons_zero, List.set_cons_succ]
          refine can_pure rfl rfl rfl (exec_cat rfl rfl (by simp; omega)) ?_
          simp only [Act.put, List.setIfInBounds_toArray, List.set_cons_zero, List.set_cons_succ]
          refine can_make rfl rfl (wd.alloc (.cells #[.int .u8 0] 5)).heap.size (Nat.le_refl _) (fun Q1 hQ1 => ?_)
          go_wp2_with fail
          refine (own_any a0 len0 cap0 w.heap.size xs _ (hr.below hd2) hd2.size (by omega)).mono ?_
          rintro e w2 ⟨A2, c2, rfl, ho2, hb2⟩
          go_wp2_with fail
          refine hQ1 _ _ hb2 ?_
          refine can_make rfl rfl (wd.alloc (.cells #[.int .u8 0] 5)).heap.size (Nat.le_refl _) (fun Q1 hQ1 => ?_)
          go_wp2_with fail
          refine (putbool_any A2 len0 c2 (wd.alloc (.cells #[.int .u8 0] 5)).heap.size a1 xs w2 ho2 hb2.size (by omega)).mono ?_
          rintro e w3 ⟨A3, c3, rfl, ho3, hb3⟩
          have hd3 := hd2.thn hB (hb2.trans hb3)
          have hz3 : (wd.alloc (.cells #[.int .u8 0] 5)).heap.size ≤ w3.heap.size := (hb2.trans hb3).size
          go_wp2_with fail
          refine hQ1 _ _ hb3 ?_
          refine can_str rfl rfl rfl rfl ho3.rd hz3 ?_
          simp only [Act.put, List.setIfInBounds_toArray, List.set_cons_zero, List.set_cons_succ]
          refine can_pure rfl rfl rfl (exec_seq rfl rfl) ?_
          simp only [Act.put, List.setIfInBounds_toArray, List.set_cons_zero, List.set_cons_succ]
          repeat ((first | (refine can_pure (v := ?_) rfl rfl rfl ?_ ?_; rotate_left; · (intro w'; go_simp; try with_reducible rfl)) | (refine can_skip rfl rfl rfl ?_)); simp only [Act.put, List.setIfInBounds_toArray, List.set_cons_zero, List.set_cons_succ])
          refine can_str rfl rfl rfl rfl ((hr.below hd3).more hd3.size) (Nat.le_refl _) ?_
          simp only [Act.put, List.setIfInBounds_toArray, List.set_cons_zero, List.set_cons_succ]
          repeat ((first | (refine can_pure (v := ?_) rfl rfl rfl ?_ ?_; rotate_left; · (intro w'; go_simp; try with_reducible rfl)) | (refine can_skip rfl rfl rfl ?_)); simp only [Act.put, List.setIfInBounds_toArray, List.set_cons_zero, List.set_cons_succ])
          refine can_make rfl rfl (w3).heap.size (Nat.le_refl _) (fun Q1 hQ1 => ?_)
          go_wp2_with fail
          refine (own_any a0 len0 cap0 w.heap.size xs _ (hr.below hd3) hd3.size (by omega)).mono ?_
          rintro e r2 ⟨B2, d2, rfl, ko2, kb2⟩
          go_wp2_with fail
          refine hQ1 _ _ kb2 ?_
          refine can_make rfl rfl (w3).heap.size (Nat.le_refl _) (fun Q1 hQ1 => ?_)
          go_wp2_with fail
          refine (putbits_any B2 len0 d2 (w3).heap.size u a3 M xs r2 ko2 kb2.size (by omega) (by omega) HM.out).mono ?_
          rintro e r3 ⟨B3, d3, rfl, ko3, kb3⟩
          go_wp2_with fail
          refine hQ1 _ _ kb3 ?_
          have hb3 := hd3.thn hB (kb2.trans kb3)
          have kz3 : (w3).heap.size ≤ r3.heap.size := (kb2.trans kb3).size
          refine can_str rfl rfl rfl rfl ko3.rd kz3 ?_
          simp only [Act.put, List.setIfInBounds_toArray, List.set_cons_zero, List.set_cons_succ]
          refine can_make rfl rfl r3.heap.size (Nat.le_refl _) (fun Q1 hQ1 => ?_)
          go_wp2_with fail
          refine (refputbits_any u a3 M r3 (by omega) HM.out).mono ?_
          rintro e r4 ⟨B4, d4, rfl, ko4, kb4⟩
          go_wp2_with fail
          refine hQ1 _ _ kb4 ?_
          have hb4 := hb3.thn hB kb4
          refine can_str rfl rfl rfl rfl ko4.rd kb4.size ?_
          simp only [Act.put, List.setIfInBounds_toArray, List.set_cons_zero, List.set_cons_succ]
          refine can_pure rfl rfl rfl (exec_cat rfl rfl (by have := lbs_len u M; omega)) ?_
          simp only [Act.put, List.setIfInBounds_toArray, List.set_cons_zero, List.set_cons_succ]
          refine can_pure rfl rfl rfl (exec_seq rfl rfl) ?_
          simp only [Act.put, List.setIfInBounds_toArray, List.set_cons_zero, List.set_cons_succ]
          repeat ((first | (refine can_pure (v := ?_) rfl rfl rfl ?_ ?_; rotate_left; · (intro w'; go_simp; try with_reducible rfl)) | (refine can_skip rfl rfl rfl ?_)); simp only [Act.put, List.setIfInBounds_toArray, List.set_cons_zero, List.set_cons_succ])
          refine can_str rfl rfl rfl rfl ((hr.below hb4).more hb4.size) (Nat.le_refl _) ?_
          simp only [Act.put, List.setIfInBounds_toArray, List.set_cons_zero, List.set_cons_succ]
          repeat ((first | (refine can_pure (v := ?_) rfl rfl rfl ?_ ?_; rotate_left; · (intro w'; go_simp; try with_reducible rfl)) | (refine can_skip rfl rfl rfl ?_)); simp only [Act.put, List.setIfInBounds_toArray, List.set_cons_zero, List.set_cons_succ])
          refine can_make rfl rfl r4.heap.size (Nat.le_refl _) (fun Q1 hQ1 => ?_)
          go_wp2_with fail
          refine (own_any a0 len0 cap0 w.heap.size xs _ (hr.below hb4) hb4.size (by omega)).mono ?_
          rintro e r5 ⟨B5, d5, rfl, ko5, kb5⟩
          have hb5 := hb4.thn hB kb5
          go_wp2_with fail
          refine hQ1 _ _ kb5 ?_
          refine can_make rfl rfl r4.heap.size (Nat.le_refl _) (fun Q1 hQ1 => ?_)
          go_wp2_with fail
          refine (putbytes_any B5 a4 len0 d5 len4 cap4 r4.heap.size w.heap.size xs ys r5 ko5 kb5.size (htr.below hb5) hb4.size (by omega) (by omega)).mono ?_
          rintro e r6 ⟨B6, m6, d6, rfl, ko6, kb6⟩
          have hb6 := hb5.trans (kb6.mono hb4.size)
          have kz6 : r4.heap.size ≤ r6.heap.size := (kb5.trans kb6).size
          go_wp2_with fail
          refine hQ1 _ _ kb6 ?_
          refine can_str rfl rfl rfl rfl ko6.rd kz6 ?_
          simp only [Act.put, List.setIfInBounds_toArray, List.set_cons_zero, List.set_cons_succ]
          refine can_make rfl rfl r6.heap.size (Nat.le_refl _) (fun Q1 hQ1 => ?_)
          go_wp2_with fail
          refine (refputbytes_any a4 len4 cap4 w.heap.size ys r6 (htr.below hb6) hb6.size (by omega)).mono ?_
          rintro e r7 ⟨B7, m7, d7, rfl, ko7, kb7⟩
          have hb7 := hb6.thn hB kb7
          go_wp2_with fail
          refine hQ1 _ _ kb7 ?_
          refine can_str rfl rfl rfl rfl ko7.rd kb7.size ?_
          simp only [Act.put, List.setIfInBounds_toArray, List.set_cons_zero, List.set_cons_succ]
          refine can_pure rfl rfl rfl (exec_cat rfl rfl (by omega)) ?_
          simp only [Act.put, List.setIfInBounds_toArray, List.set_cons_zero, List.set_cons_succ]
          refine can_pure rfl rfl rfl (exec_seq rfl rfl) ?_
          simp only [Act.put, List.setIfInBounds_toArray, List.set_cons_zero, List.set_cons_succ]
          repeat ((first | (refine can_pure (v := ?_) rfl rfl rfl ?_ ?_; rotate_left; · (intro w'; go_simp; try with_reducible rfl)) | (refine can_skip rfl rfl rfl ?_)); simp only [Act.put, List.setIfInBounds_toArray, List.set_cons_zero, List.set_cons_succ])
          refine can_make rfl rfl r7.heap.size (Nat.le_refl _) (fun Q1 hQ1 => ?_)
          go_wp2_with fail
          refine (works_any _).mono ?_
          rintro e r8 ⟨rfl, kb8⟩
          have hb8 := hb7.thn hB kb8
          go_wp2_with fail
          refine hQ1 _ _ kb8 ?_
          repeat ((first | (refine can_pure (v := ?_) rfl rfl rfl ?_ ?_; rotate_left; · (intro w'; go_simp; try with_reducible rfl)) | (refine can_skip rfl rfl rfl ?_)); simp only [Act.put, List.setIfInBounds_toArray, List.set_cons_zero, List.set_cons_succ])
          refine can_done ?_
          go_wp2
          go_ret
          exact ⟨rfl, hb8⟩
      · have htb : (1 : Int) = ((tb a1).toNat : Int) := by unfold tb; rw [if_neg h0]; rfl
        have HTB := Lib.hid htb
        clear htb
        have h02 : (a1 != 0) = true := by simp [h0]
        clear h0
        go_enter Try.func11, Try.ntmps11
        go_wp2_with fail
        refine region_plan (Plan.of [0, 2, 5, 6, 7] (.fork 1 (.fork 3 (Plan.of [4, 8, 9, 10, 11, 12, 13, 15, 16, 19, 20, 21, 22, 14, 17, 18, 23, 24, 25, 26, 27, 28, 29, 31, 34, 35, 36, 30, 32, 33, 37, 38, 39, 40, 41, 42, 43, 44, 45] .nil) 8 (.fork 3 (Plan.of [4, 9, 10, 11, 12, 13, 15, 16, 19, 20, 21, 22, 14, 17, 18, 23, 24, 25, 26, 27, 28, 29, 31, 34, 35, 36, 30, 32, 33, 37, 38, 39, 40, 41, 42, 43, 44, 45] .nil) 9 (Plan.of [10, 3, 4, 11, 12, 13, 15, 16, 19, 20, 21, 22, 14, 17, 18, 23, 24, 25, 26, 27, 28, 29, 31, 34, 35, 36, 30, 32, 33, 37, 38, 39, 40, 41, 42, 43, 44, 45] .nil))) 8 (Plan.of [9, 10, 1, 3, 4, 11, 12, 13, 15, 16, 19, 20, 21, 22, 14, 17, 18, 23, 24, 25, 26, 27, 28, 29, 31, 34, 35, 36, 30, 32, 33, 37, 38, 39, 40, 41, 42, 43, 44, 45] .nil))) [1, 3, 8, 14, 17, 23, 30, 32, 37, 43] (by kernel_rfl) (by kernel_rfl) (by decide +kernel) (by kernel_rfl) (fun _ _ d _ _ h => by cases d <;> exact h) (fun wd hd hds => ?_)
        have Hds := Lib.hid hds
        clear hds
        repeat ((refine pan_pure (v := ?_) rfl rfl rfl ?_ ?_; rotate_left; · (intro w'; go_simp; try with_reducible rfl)); simp only [Act.put, List.setIfInBounds_toArray, List.set_cons_zero, List.set_cons_succ])
        refine pan_read rfl rfl rfl w.heap.size (by omega) _ (fun w' hb => exec_str rfl ((hr.below hd).below hb)) ?_
        simp only [Act.put, List.setIfInBounds_toArray, List.set_cons_zero, List.set_cons_succ]
        repeat ((refine pan_pure (v := ?_) rfl rfl rfl ?_ ?_; rotate_left; · (intro w'; go_simp; try with_reducible rfl)); simp only [Act.put, List.setIfInBounds_toArray, List.set_cons_zero, List.set_cons_succ])
        refine pan_fork rfl rfl wd.heap.size hd.size (fun Q1 hQ1 => ?_) (fun Q1 hQ1 => ?_)
        · go_wp2_with fail
          refine (own_any a0 len0 cap0 w.heap.size xs _ (hr.below hd) hd.size (by omega)).mono ?_
          rintro e w2 ⟨A2, c2, rfl, ho2, hb2⟩
          have hd2 := hd.thn hB hb2
          go_wp2_with fail
          refine hQ1 _ _ hb2 ?_
          refine pan_fork rfl rfl wd.heap.size (Nat.le_refl _) (fun Q1 hQ1 => ?_) (fun Q1 hQ1 => ?_)
          · go_wp2_with fail
            refine (putbool_any A2 len0 c2 wd.heap.size a1 xs w2 ho2 hb2.size (by omega)).mono ?_
            rintro e w3 ⟨A3, c3, rfl, ho3, hb3⟩
            have hd3 := hd2.trans (hb3.mono hd.size)
            have hz3 : wd.heap.size ≤ w3.heap.size := (hb2.trans hb3).size
            go_wp2_with fail
            refine hQ1 _ _ hb3 ?_
            refine plan_line [4, 8, 9, 10, 11, 12, 13, 15, 16, 19, 20, 21, 22, 14, 17, 18, 23, 24, 25, 26, 27, 28, 29, 31, 34, 35, 36, 30, 32, 33, 37, 38, 39, 40, 41, 42, 43, 44, 45] _ _ _ ?_
            refine can_str rfl rfl rfl rfl ho3.rd hz3 ?_
            simp only [Act.put, List.setIfInBounds_toArray, List.set_cons_zero, List.set_cons_succ]
            refine can_make rfl rfl w3.heap.size (Nat.le_refl _) (fun Q1 hQ1 => ?_)
            go_wp2_with fail
            refine hQ1 _ _ ((Below.refl _ _).alloc (Nat.le_refl _) _) ?_
            refine can_str rfl rfl rfl rfl ((rd_val w3 (tb a1) 1 HTB.out).more (B' := (w3.alloc (.cells #[.int .u8 1] 5)).heap.size) (by simp)) (by simp) ?_
            simp only [Act.put, List.setIfInBounds_toArray, List.set_cons_zero, List.set_cons_succ]
            refine can_pure rfl rfl rfl (exec_cat rfl rfl (by simp; omega)) ?_
            simp only [Act.put, List.setIfInBounds_toArray, List.set_cons_zero, List.set_cons_succ]
            have hW := hd3.al hB (.cells #[.int .u8 1] 5)
            refine can_pure rfl rfl rfl (exec_seq rfl rfl) ?_
            simp only [Act.put, List.setIfInBounds_toArray, List.set_cons_zero, List.set_cons_succ]
            repeat ((first | (refine can_pure (v := ?_) rfl rfl rfl ?_ ?_; rotate_left; · (intro w'; go_simp; try with_reducible rfl)) | (refine can_skip rfl rfl rfl ?_)); simp only [Act.put, List.setIfInBounds_toArray, List.set_cons_zero, List.set_cons_succ])
            refine can_str rfl rfl rfl rfl ((hr.below hW).more hW.size) (Nat.le_refl _) ?_
            simp only [Act.put, List.setIfInBounds_toArray, List.set_cons_zero, List.set_cons_succ]
            repeat ((first | (refine can_pure (v := ?_) rfl rfl rfl ?_ ?_; rotate_left; · (intro w'; go_simp; try with_reducible rfl)) | (refine can_skip rfl rfl rfl ?_)); simp only [Act.put, List.setIfInBounds_toArray, List.set_cons_zero, List.set_cons_succ])
            refine can_make rfl rfl (w3.alloc (.cells #[.int .u8 1] 5)).heap.size (Nat.le_refl _) (fun Q1 hQ1 => ?_)
            go_wp2_with fail
            refine (own_any a0 len0 cap0 w.heap.size xs _ (hr.below hW) hW.size (by omega)).mono ?_
            rintro e r2 ⟨B2, d2, rfl, ko2, kb2⟩
            go_wp2_with fail
            refine hQ1 _ _ kb2 ?_
            refine can_make rfl rfl (w3.alloc (.cells #[.int .u8 1] 5)).heap.size (Nat.le_refl _) (fun Q1 hQ1 => ?_)
            go_wp2_with fail
            refine (putbits_any B2 len0 d2 (w3.alloc (.cells #[.int .u8 1] 5)).heap.size u a3 M xs r2 ko2 kb2.size (by omega) (by omega) HM.out).mono ?_
            rintro e r3 ⟨B3, d3, rfl, ko3, kb3⟩
            go_wp2_with fail
            refine hQ1 _ _ kb3 ?_
            have hb3 := hW.thn hB (kb2.trans kb3)
            have kz3 : (w3.alloc (.cells #[.int .u8 1] 5)).heap.size ≤ r3.heap.size := (kb2.trans kb3).size
            refine can_str rfl rfl rfl rfl ko3.rd kz3 ?_
            simp only [Act.put, List.setIfInBounds_toArray, List.set_cons_zero, List.set_cons_succ]
            refine can_make rfl rfl r3.heap.size (Nat.le_refl _) (fun Q1 hQ1 => ?_)
            go_wp2_with fail
            refine (refputbits_any u a3 M r3 (by omega) HM.out).mono ?_
            rintro e r4 ⟨B4, d4, rfl, ko4, kb4⟩
            go_wp2_with fail
            refine hQ1 _ _ kb4 ?_
            have hb4 := hb3.thn hB kb4
            refine can_str rfl rfl rfl rfl ko4.rd kb4.size ?_
            simp only [Act.put, List.setIfInBounds_toArray, List.set_cons_zero, List.set_cons_succ]
            refine can_pure rfl rfl rfl (exec_cat rfl rfl (by have := lbs_len u M; omega)) ?_
            simp only [Act.put, List.setIfInBounds_toArray, List.set_cons_zero, List.set_cons_succ]
            refine can_pure rfl rfl rfl (exec_seq rfl rfl) ?_
            simp only [Act.put, List.setIfInBounds_toArray, List.set_cons_zero, List.set_cons_succ]
            repeat ((first | (refine can_pure (v := ?_) rfl rfl rfl ?_ ?_; rotate_left; · (intro w'; go_simp; try with_reducible rfl)) | (refine can_skip rfl rfl rfl ?_)); simp only [Act.put, List.setIfInBounds_toArray, List.set_cons_zero, List.set_cons_succ])
            refine can_str rfl rfl rfl rfl ((hr.below hb4).more hb4.size) (Nat.le_refl _) ?_
            simp only [Act.put, List.setIfInBounds_toArray, List.set_cons_zero, List.set_cons_succ]
            repeat ((first | (refine can_pure (v := ?_) rfl rfl rfl ?_ ?_; rotate_left; · (intro w'; go_simp; try with_reducible rfl)) | (refine can_skip rfl rfl rfl ?_)); simp only [Act.put, List.setIfInBounds_toArray, List.set_cons_zero, List.set_cons_succ])
            refine can_make rfl rfl r4.heap.size (Nat.le_refl _) (fun Q1 hQ1 => ?_)
            go_wp2_with fail
            refine (own_any a0 len0 cap0 w.heap.size xs _ (hr.below hb4) hb4.size (by omega)).mono ?_
            rintro e r5 ⟨B5, d5, rfl, ko5, kb5⟩
            have hb5 := hb4.thn hB kb5
            go_wp2_with fail
            refine hQ1 _ _ kb5 ?_
            refine can_make rfl rfl r4.heap.size (Nat.le_refl _) (fun Q1 hQ1 => ?_)
            go_wp2_with fail
            refine (putbytes_any B5 a4 len0 d5 len4 cap4 r4.heap.size w.heap.size xs ys r5 ko5 kb5.size (htr.below hb5) hb4.size (by omega) (by omega)).mono ?_
            rintro e r6 ⟨B6, m6, d6, rfl, ko6, kb6⟩
            have hb6 := hb5.trans (kb6.mono hb4.size)
            have kz6 : r4.heap.size ≤ r6.heap.size := (kb5.trans kb6).size
            go_wp2_with fail
            refine hQ1 _ _ kb6 ?_
            refine can_str rfl rfl rfl rfl ko6.rd kz6 ?_
            simp only [Act.put, List.setIfInBounds_toArray, List.set_cons_zero, List.set_cons_succ]
            refine can_make rfl rfl r6.heap.size (Nat.le_refl _) (fun Q1 hQ1 => ?_)
            go_wp2_with fail
            refine (refputbytes_any a4 len4 cap4 w.heap.size ys r6 (htr.below hb6) hb6.size (by omega)).mono ?_
            rintro e r7 ⟨B7, m7, d7, rfl, ko7, kb7⟩
            have hb7 := hb6.thn hB kb7
            go_wp2_with fail
            refine hQ1 _ _ kb7 ?_
            refine can_str rfl rfl rfl rfl ko7.rd kb7.size ?_
            simp only [Act.put, List.setIfInBounds_toArray, List.set_cons_zero, List.set_cons_succ]
            refine can_pure rfl rfl rfl (exec_cat rfl rfl (by omega)) ?_
            simp only [Act.put, List.setIfInBounds_toArray, List.set_cons_zero, List.set_cons_succ]
            refine can_pure rfl rfl rfl (exec_seq rfl rfl) ?_
            simp only [Act.put, List.setIfInBounds_toArray, List.set_cons_zero, List.set_cons_succ]
            repeat ((first | (refine can_pure (v := ?_) rfl rfl rfl ?_ ?_; rotate_left; · (intro w'; go_simp; try with_reducible rfl)) | (refine can_skip rfl rfl rfl ?_)); simp only [Act.put, List.setIfInBounds_toArray, List.set_cons_zero, List.set_cons_succ])
            refine can_make rfl rfl r7.heap.size (Nat.le_refl _) (fun Q1 hQ1 => ?_)
            go_wp2_with fail
            refine (works_any _).mono ?_
            rintro e r8 ⟨rfl, kb8⟩
            have hb8 := hb7.thn hB kb8
            go_wp2_with fail
            refine hQ1 _ _ kb8 ?_
            repeat ((first | (refine can_pure (v := ?_) rfl rfl rfl ?_ ?_; rotate_left; · (intro w'; go_simp; try with_reducible rfl)) | (refine can_skip rfl rfl rfl ?_)); simp only [Act.put, List.setIfInBounds_toArray, List.set_cons_zero, List.set_cons_succ])
            refine can_done ?_
            go_wp2
            go_ret
            exact ⟨rfl, hb8⟩
          · go_wp2_with fail
            refine hQ1 _ _ ((Below.refl _ _).alloc hb2.size _) ?_
            refine pan_fork rfl rfl wd.heap.size (Nat.le_refl _) (fun Q1 hQ1 => ?_) (fun Q1 hQ1 => ?_)
            · go_wp2_with fail
              refine (putbool_k A2 len0 c2 wd.heap.size a1 xs _ w2.heap.size (.int .u8 1) (ho2.alloc _) (by have := hb2.size; simp; omega) (by omega) (Bx.new ho2 _ _)).mono ?_
              rintro e w3 ⟨A3, c3, rfl, ho3, hb3, hx3⟩
              have hd3 := (hd2.al hB (.cells #[.int .u8 1] 5)).trans (hb3.mono hd.size)
              have hz2 := hb2.size
              have hz3 := hb3.size
              simp only [World.size_alloc] at hz3
              have hX3 := rd_bx (tb a1) 1 HTB.out hx3
              go_wp2_with fail
              refine hQ1 _ _ hb3 ?_
              refine plan_line [4, 9, 10, 11, 12, 13, 15, 16, 19, 20, 21, 22, 14, 17, 18, 23, 24, 25, 26, 27, 28, 29, 31, 34, 35, 36, 30, 32, 33, 37, 38, 39, 40, 41, 42, 43, 44, 45] _ _ _ ?_
              refine can_str rfl rfl rfl rfl ho3.rd (by omega) ?_
              simp only [Act.put, List.setIfInBounds_toArray, List.set_cons_zero, List.set_cons_succ]
              refine can_str rfl rfl rfl rfl hX3 (Nat.le_refl _) ?_
              simp only [Act.put, List.setIfInBounds_toArray, List.set_cons_zero, List.set_cons_succ]
              refine can_pure rfl rfl rfl (exec_cat rfl rfl (by simp; omega)) ?_
              simp only [Act.put, List.setIfInBounds_toArray, List.set_cons_zero, List.set_cons_succ]
              refine can_pure rfl rfl rfl (exec_seq rfl rfl) ?_
              simp only [Act.put, List.setIfInBounds_toArray, List.set_cons_zero, List.set_cons_succ]
              repeat ((first | (refine can_pure (v := ?_) rfl rfl rfl ?_ ?_; rotate_left; · (intro w'; go_simp; try with_reducible rfl)) | (refine can_skip rfl rfl rfl ?_)); simp only [Act.put, List.setIfInBounds_toArray, List.set_cons_zero, List.set_cons_succ])
              refine can_str rfl rfl rfl rfl ((hr.below hd3).more hd3.size) (Nat.le_refl _) ?_
              simp only [Act.put, List.setIfInBounds_toArray, List.set_cons_zero, List.set_cons_succ]
              repeat ((first | (refine can_pure (v := ?_) rfl rfl rfl ?_ ?_; rotate_left; · (intro w'; go_simp; try with_reducible rfl)) | (refine can_skip rfl rfl rfl ?_)); simp only [Act.put, List.setIfInBounds_toArray, List.set_cons_zero, List.set_cons_succ])
              refine can_make rfl rfl (w3).heap.size (Nat.le_refl _) (fun Q1 hQ1 => ?_)
              go_wp2_with fail
              refine (own_any a0 len0 cap0 w.heap.size xs _ (hr.below hd3) hd3.size (by omega)).mono ?_
              rintro e r2 ⟨B2, d2, rfl, ko2, kb2⟩
              go_wp2_with fail
              refine hQ1 _ _ kb2 ?_
              refine can_make rfl rfl (w3).heap.size (Nat.le_refl _) (fun Q1 hQ1 => ?_)
              go_wp2_with fail
              refine (putbits_any B2 len0 d2 (w3).heap.size u a3 M xs r2 ko2 kb2.size (by omega) (by omega) HM.out).mono ?_
              rintro e r3 ⟨B3, d3, rfl, ko3, kb3⟩
              go_wp2_with fail
              refine hQ1 _ _ kb3 ?_
              have hb3 := hd3.thn hB (kb2.trans kb3)
              have kz3 : (w3).heap.size ≤ r3.heap.size := (kb2.trans kb3).size
              refine can_str rfl rfl rfl rfl ko3.rd kz3 ?_
              simp only [Act.put, List.setIfInBounds_toArray, List.set_cons_zero, List.set_cons_succ]
              refine can_make rfl rfl r3.heap.size (Nat.le_refl _) (fun Q1 hQ1 => ?_)
              go_wp2_with fail
              refine (refputbits_any u a3 M r3 (by omega) HM.out).mono ?_
              rintro e r4 ⟨B4, d4, rfl, ko4, kb4⟩
              go_wp2_with fail
              refine hQ1 _ _ kb4 ?_
              have hb4 := hb3.thn hB kb4
              refine can_str rfl rfl rfl rfl ko4.rd kb4.size ?_
              simp only [Act.put, List.setIfInBounds_toArray, List.set_cons_zero, List.set_cons_succ]
              refine can_pure rfl rfl rfl (exec_cat rfl rfl (by have := lbs_len u M; omega)) ?_
              simp only [Act.put, List.setIfInBounds_toArray, List.set_cons_zero, List.set_cons_succ]
              refine can_pure rfl rfl rfl (exec_seq rfl rfl) ?_
              simp only [Act.put, List.setIfInBounds_toArray, List.set_cons_zero, List.set_cons_succ]
              repeat ((first | (refine can_pure (v := ?_) rfl rfl rfl ?_ ?_; rotate_left; · (intro w'; go_simp; try with_reducible rfl)) | (refine can_skip rfl rfl rfl ?_)); simp only [Act.put, List.setIfInBounds_toArray, List.set_cons_zero, List.set_cons_succ])
              refine can_str rfl rfl rfl rfl ((hr.below hb4).more hb4.size) (Nat.le_refl _) ?_
              simp only [Act.put, List.setIfInBounds_toArray, List.set_cons_zero, List.set_cons_succ]
              repeat ((first | (refine can_pure (v := ?_) rfl rfl rfl ?_ ?_; rotate_left; · (intro w'; go_simp; try with_reducible rfl)) | (refine can_skip rfl rfl rfl ?_)); simp only [Act.put, List.setIfInBounds_toArray, List.set_cons_zero, List.set_cons_succ])
              refine can_make rfl rfl r4.heap.size (Nat.le_refl _) (fun Q1 hQ1 => ?_)
              go_wp2_with fail
              refine (own_any a0 len0 cap0 w.heap.size xs _ (hr.below hb4) hb4.size (by omega)).mono ?_
              rintro e r5 ⟨B5, d5, rfl, ko5, kb5⟩
              have hb5 := hb4.thn hB kb5
              go_wp2_with fail
              refine hQ1 _ _ kb5 ?_
              refine can_make rfl rfl r4.heap.size (Nat.le_refl _) (fun Q1 hQ1 => ?_)
              go_wp2_with fail
              refine (putbytes_any B5 a4 len0 d5 len4 cap4 r4.heap.size w.heap.size xs ys r5 ko5 kb5.size (htr.below hb5) hb4.size (by omega) (by omega)).mono ?_
              rintro e r6 ⟨B6, m6, d6, rfl, ko6, kb6⟩
              have hb6 := hb5.trans (kb6.mono hb4.size)
              have kz6 : r4.heap.size ≤ r6.heap.size := (kb5.trans kb6).size
              go_wp2_with fail
              refine hQ1 _ _ kb6 ?_
              refine can_str rfl rfl rfl rfl ko6.rd kz6 ?_
              simp only [Act.put, List.setIfInBounds_toArray, List.set_cons_zero, List.set_cons_succ]
              refine can_make rfl rfl r6.heap.size (Nat.le_refl _) (fun Q1 hQ1 => ?_)
              go_wp2_with fail
              refine (refputbytes_any a4 len4 cap4 w.heap.size ys r6 (htr.below hb6) hb6.size (by omega)).mono ?_
              rintro e r7 ⟨B7, m7, d7, rfl, ko7, kb7⟩
              have hb7 := hb6.thn hB kb7
              go_wp2_with fail
              refine hQ1 _ _ kb7 ?_
              refine can_str rfl rfl rfl rfl ko7.rd kb7.size ?_
              simp only [Act.put, List.setIfInBounds_toArray, List.set_cons_zero, List.set_cons_succ]
              refine can_pure rfl rfl rfl (exec_cat rfl rfl (by omega)) ?_
              simp only [Act.put, List.setIfInBounds_toArray, List.set_cons_zero, List.set_cons_succ]
              refine can_pure rfl rfl rfl (exec_seq rfl rfl) ?_
              simp only [Act.put, List.setIfInBounds_toArray, List.set_cons_zero, List.set_cons_succ]
              repeat ((first | (refine can_pure (v := ?_) rfl rfl rfl ?_ ?_; rotate_left; · (intro w'; go_simp; try with_reducible rfl)) | (refine can_skip rfl rfl rfl ?_)); simp only [Act.put, List.setIfInBounds_toArray, List.set_cons_zero, List.set_cons_succ])
              refine can_make rfl rfl r7.heap.size (Nat.le_refl _) (fun Q1 hQ1 => ?_)
              go_wp2_with fail
              refine (works_any _).mono ?_
              rintro e r8 ⟨rfl, kb8⟩
              have hb8 := hb7.thn hB kb8
              go_wp2_with fail
              refine hQ1 _ _ kb8 ?_
              repeat ((first | (refine can_pure (v := ?_) rfl rfl rfl ?_ ?_; rotate_left; · (intro w'; go_simp; try with_reducible rfl)) | (refine can_skip rfl rfl rfl ?_)); simp only [Act.put, List.setIfInBounds_toArray, List.set_cons_zero, List.set_cons_succ])
              refine can_done ?_
              go_wp2
              go_ret
              exact ⟨rfl, hb8⟩
            · go_wp2_with (with_reducible refine wpl_str rfl rfl (rd_val w2 (tb a1) 1 HTB.out) ?_)
              refine hQ1 _ _ (Below.refl _ _) ?_
              refine plan_line [10, 3, 4, 11, 12, 13, 15, 16, 19, 20, 21, 22, 14, 17, 18, 23, 24, 25, 26, 27, 28, 29, 31, 34, 35, 36, 30, 32, 33, 37, 38, 39, 40, 41, 42, 43, 44, 45] _ _ _ ?_
              refine can_pure rfl rfl rfl (exec_cat rfl rfl (by simp; omega)) ?_
              simp only [Act.put, List.setIfInBounds_toArray, List.set_cons_zero, List.set_cons_succ]
              refine can_make rfl rfl wd.heap.size (Nat.le_refl _) (fun Q1 hQ1 => ?_)
              go_wp2_with fail
              refine (putbool_any A2 len0 c2 wd.heap.size a1 xs _ (ho2.alloc _) (by have := hb2.size; simp; omega) (by omega)).mono ?_
              rintro e w3 ⟨A3, c3, rfl, ho3, hb3⟩
              have hd3 := (hd2.al hB (.cells #[.int .u8 1] 5)).trans (hb3.mono hd.size)
              have hz2 := hb2.size
              have hz3 := hb3.size
              simp only [World.size_alloc] at hz3
              go_wp2_with fail
              refine hQ1 _ _ hb3 ?_
              refine can_str rfl rfl rfl rfl ho3.rd (by omega) ?_
              simp only [Act.put, List.setIfInBounds_toArray, List.set_cons_zero, List.set_cons_succ]
              refine can_pure rfl rfl rfl (exec_seq rfl rfl) ?_
              simp only [Act.put, List.setIfInBounds_toArray, List.set_cons_zero, List.set_cons_succ]
              repeat ((first | (refine can_pure (v := ?_) rfl rfl rfl ?_ ?_; rotate_left; · (intro w'; go_simp; try with_reducible rfl)) | (refine can_skip rfl rfl rfl ?_)); simp only [Act.put, List.setIfInBounds_toArray, List.set_cons_zero, List.set_cons_succ])
              refine can_str rfl rfl rfl rfl ((hr.below hd3).more hd3.size) (Nat.le_refl _) ?_
              simp only [Act.put, List.setIfInBounds_toArray, List.set_cons_zero, List.set_cons_succ]
              repeat ((first | (refine can_pure (v := ?_) rfl rfl rfl ?_ ?_; rotate_left; · (intro w'; go_simp; try with_reducible rfl)) | (refine can_skip rfl rfl rfl ?_)); simp only [Act.put, List.setIfInBounds_toArray, List.set_cons_zero, List.set_cons_succ])
              refine can_make rfl rfl (w3).heap.size (Nat.le_refl _) (fun Q1 hQ1 => ?_)
              go_wp2_with fail
              refine (own_any a0 len0 cap0 w.heap.size xs _ (hr.below hd3) hd3.size (by omega)).mono ?_
              rintro e r2 ⟨B2, d2, rfl, ko2, kb2⟩
              go_wp2_with fail
              refine hQ1 _ _ kb2 ?_
              refine can_make rfl rfl (w3).heap.size (Nat.le_refl _) (fun Q1 hQ1 => ?_)
              go_wp2_with fail
              refine (putbits_any B2 len0 d2 (w3).heap.size u a3 M xs r2 ko2 kb2.size (by omega) (by omega) HM.out).mono ?_
              rintro e r3 ⟨B3, d3, rfl, ko3, kb3⟩
              go_wp2_with fail
              refine hQ1 _ _ kb3 ?_
              have hb3 := hd3.thn hB (kb2.trans kb3)
              have kz3 : (w3).heap.size ≤ r3.heap.size := (kb2.trans kb3).size
              refine can_str rfl rfl rfl rfl ko3.rd kz3 ?_
              simp only [Act.put, List.setIfInBounds_toArray, List.set_cons_zero, List.set_cons_succ]
              refine can_make rfl rfl r3.heap.size (Nat.le_refl _) (fun Q1 hQ1 => ?_)
              go_wp2_with fail
              refine (refputbits_any u a3 M r3 (by omega) HM.out).mono ?_
              rintro e r4 ⟨B4, d4, rfl, ko4, kb4⟩
              go_wp2_with fail
              refine hQ1 _ _ kb4 ?_
              have hb4 := hb3.thn hB kb4
              refine can_str rfl rfl rfl rfl ko4.rd kb4.size ?_
              simp only [Act.put, List.setIfInBounds_toArray, List.set_cons_zero, List.set_cons_succ]
              refine can_pure rfl rfl rfl (exec_cat rfl rfl (by have := lbs_len u M; omega)) ?_
              simp only [Act.put, List.setIfInBounds_toArray, List.set_cons_zero, List.set_cons_succ]
              refine can_pure rfl rfl rfl (exec_seq rfl rfl) ?_
              simp only [Act.put, List.setIfInBounds_toArray, List.set_cons_zero, List.set_cons_succ]
              repeat ((first | (refine can_pure (v := ?_) rfl rfl rfl ?_ ?_; rotate_left; · (intro w'; go_simp; try with_reducible rfl)) | (refine can_skip rfl rfl rfl ?_)); simp only [Act.put, List.setIfInBounds_toArray, List.set_cons_zero, List.set_cons_succ])
              refine can_str rfl rfl rfl rfl ((hr.below hb4).more hb4.size) (Nat.le_refl _) ?_
              simp only [Act.put, List.setIfInBounds_toArray, List.set_cons_zero, List.set_cons_succ]
              repeat ((first | (refine can_pure (v := ?_) rfl rfl rfl ?_ ?_; rotate_left; · (intro w'; go_simp; try with_reducible rfl)) | (refine can_skip rfl rfl rfl ?_)); simp only [Act.put, List.setIfInBounds_toArray, List.set_cons_zero, List.set_cons_succ])
              refine can_make rfl rfl r4.heap.size (Nat.le_refl _) (fun Q1 hQ1 => ?_)
              go_wp2_with fail
              refine (own_any a0 len0 cap0 w.heap.size xs _ (hr.below hb4) hb4.size (by omega)).mono ?_
              rintro e r5 ⟨B5, d5, rfl, ko5, kb5⟩
              have hb5 := hb4.thn hB kb5
              go_wp2_with fail
              refine hQ1 _ _ kb5 ?_
              refine can_make rfl rfl r4.heap.size (Nat.le_refl _) (fun Q1 hQ1 => ?_)
              go_wp2_with fail
              refine (putbytes_any B5 a4 len0 d5 len4 cap4 r4.heap.size w.heap.size xs ys r5 ko5 kb5.size (htr.below hb5) hb4.size (by omega) (by omega)).mono ?_
              rintro e r6 ⟨B6, m6, d6, rfl, ko6, kb6⟩
              have hb6 := hb5.trans (kb6.mono hb4.size)
              have kz6 : r4.heap.size ≤ r6.heap.size := (kb5.trans kb6).size
              go_wp2_with fail
              refine hQ1 _ _ kb6 ?_
              refine can_str rfl rfl rfl rfl ko6.rd kz6 ?_
              simp only [Act.put, List.setIfInBounds_toArray, List.set_cons_zero, List.set_cons_succ]
              refine can_make rfl rfl r6.heap.size (Nat.le_refl _) (fun Q1 hQ1 => ?_)
              go_wp2_with fail
              refine (refputbytes_any a4 len4 cap4 w.heap.size ys r6 (htr.below hb6) hb6.size (by omega)).mono ?_
              rintro e r7 ⟨B7, m7, d7, rfl, ko7, kb7⟩
              have hb7 := hb6.thn hB kb7
              go_wp2_with fail
              refine hQ1 _ _ kb7 ?_
              refine can_str rfl rfl rfl rfl ko7.rd kb7.size ?_
              simp only [Act.put, List.setIfInBounds_toArray, List.set_cons_zero, List.set_cons_succ]
              refine can_pure rfl rfl rfl (exec_cat rfl rfl (by omega)) ?_
              simp only [Act.put, List.setIfInBounds_toArray, List.set_cons_zero, List.set_cons_succ]
              refine can_pure rfl rfl rfl (exec_seq rfl rfl) ?_
              simp only [Act.put, List.setIfInBounds_toArray, List.set_cons_zero, List.set_cons_succ]
              repeat ((first | (refine can_pure (v := ?_) rfl rfl rfl ?_ ?_; rotate_left; · (intro w'; go_simp; try with_reducible rfl)) | (refine can_skip rfl rfl rfl ?_)); simp only [Act.put, List.setIfInBounds_toArray, List.set_cons_zero, List.set_cons_succ])
              refine can_make rfl rfl r7.heap.size (Nat.le_refl _) (fun Q1 hQ1 => ?_)
              go_wp2_with fail
              refine (works_any _).mono ?_
              rintro e r8 ⟨rfl, kb8⟩
              have hb8 := hb7.thn hB kb8
              go_wp2_with fail
              refine hQ1 _ _ kb8 ?_
              repeat ((first | (refine can_pure (v := ?_) rfl rfl rfl ?_ ?_; rotate_left; · (intro w'; go_simp; try with_reducible rfl)) | (refine can_skip rfl rfl rfl ?_)); simp only [Act.put, List.setIfInBounds_toArray, List.set_cons_zero, List.set_cons_succ])
              refine can_done ?_
              go_wp2
              go_ret
              exact ⟨rfl, hb8⟩
        · go_wp2_with fail
          refine hQ1 _ _ ((Below.refl _ _).alloc (Nat.le_refl _) _) ?_
          refine plan_line [9, 10, 1, 3, 4, 11, 12, 13, 15, 16, 19, 20, 21, 22, 14, 17, 18, 23, 24, 25, 26, 27, 28, 29, 31, 34, 35, 36, 30, 32, 33, 37, 38, 39, 40, 41, 42, 43, 44, 45] _ _ _ ?_
          have hd2 := hd.al hB (.cells #[.int .u8 1] 5)
          refine can_str rfl rfl rfl rfl ((rd_val wd (tb a1) 1 HTB.out).more (B' := (wd.alloc (.cells #[.int .u8 1] 5)).heap.size) (by simp)) (by simp) ?_
          simp only [Act.put, List.setIfInBounds_toArray, List.set_cons_zero, List.set_cons_succ]
          refine can_pure rfl rfl rfl (exec_cat rfl rfl (by simp; omega)) ?_
          simp only [Act.put, List.setIfInBounds_toArray, List.set_cons_zero, List.set_cons_succ]
          refine can_make rfl rfl (wd.alloc (.cells #[.int .u8 1] 5)).heap.size (Nat.le_refl _) (fun Q1 hQ1 => ?_)
          go_wp2_with fail
          refine (own_any a0 len0 cap0 w.heap.size xs _ (hr.below hd2) hd2.size (by omega)).mono ?_
          rintro e w2 ⟨A2, c2, rfl, ho2, hb2⟩
          go_wp2_with fail
          refine hQ1 _ _ hb2 ?_
          refine can_make rfl rfl (wd.alloc (.cells #[.int .u8 1] 5)).heap.size (Nat.le_refl _) (fun Q1 hQ1 => ?_)
          go_wp2_with fail
          refine (putbool_any A2 len0 c2 (wd.alloc (.cells #[.int .u8 1] 5)).heap.size a1 xs w2 ho2 hb2.size (by omega)).mono ?_
          rintro e w3 ⟨A3, c3, rfl, ho3, hb3⟩
          have hd3 := hd2.thn hB (hb2.trans hb3)
          have hz3 : (wd.alloc (.cells #[.int .u8 1] 5)).heap.size ≤ w3.heap.size := (hb2.trans hb3).size
          go_wp2_with fail
          refine hQ1 _ _ hb3 ?_
          refine can_str rfl rfl rfl rfl ho3.rd hz3 ?_
          simp only [Act.put, List.setIfInBounds_toArray, List.set_cons_zero, List.set_cons_succ]
          refine can_pure rfl rfl rfl (exec_seq rfl rfl) ?_
          simp only [Act.put, List.setIfInBounds_toArray, List.set_cons_zero, List.set_cons_succ]
          repeat ((first | (refine can_pure (v := ?_) rfl rfl rfl ?_ ?_; rotate_left; · (intro w'; go_simp; try with_reducible rfl)) | (refine can_skip rfl rfl rfl ?_)); simp only [Act.put, List.setIfInBounds_toArray, List.set_cons_zero, List.set_cons_succ])
          refine can_str rfl rfl rfl rfl ((hr.below hd3).more hd3.size) (Nat.le_refl _) ?_
          simp only [Act.put, List.setIfInBounds_toArray, List.set_cons_zero, List.set_cons_succ]
          repeat ((first | (refine can_pure (v := ?_) rfl rfl rfl ?_ ?_; rotate_left; · (intro w'; go_simp; try with_reducible rfl)) | (refine can_skip rfl rfl rfl ?_)); simp only [Act.put, List.setIfInBounds_toArray, List.set_cons_zero, List.set_cons_succ])
          refine can_make rfl rfl (w3).heap.size (Nat.le_refl _) (fun Q1 hQ1 => ?_)
          go_wp2_with fail
          refine (own_any a0 len0 cap0 w.heap.size xs _ (hr.below hd3) hd3.size (by omega)).mono ?_
          rintro e r2 ⟨B2, d2, rfl, ko2, kb2⟩
          go_wp2_with fail
          refine hQ1 _ _ kb2 ?_
          refine can_make rfl rfl (w3).heap.size (Nat.le_refl _) (fun Q1 hQ1 => ?_)
          go_wp2_with fail
          refine (putbits_any B2 len0 d2 (w3).heap.size u a3 M xs r2 ko2 kb2.size (by omega) (by omega) HM.out).mono ?_
          rintro e r3 ⟨B3, d3, rfl, ko3, kb3⟩
          go_wp2_with fail
          refine hQ1 _ _ kb3 ?_
          have hb3 := hd3.thn hB (kb2.trans kb3)
          have kz3 : (w3).heap.size ≤ r3.heap.size := (kb2.trans kb3).size
          refine can_str rfl rfl rfl rfl ko3.rd kz3 ?_
          simp only [Act.put, List.setIfInBounds_toArray, List.set_cons_zero, List.set_cons_succ]
          refine can_make rfl rfl r3.heap.size (Nat.le_refl _) (fun Q1 hQ1 => ?_)
          go_wp2_with fail
          refine (refputbits_any u a3 M r3 (by omega) HM.out).mono ?_
          rintro e r4 ⟨B4, d4, rfl, ko4, kb4⟩
          go_wp2_with fail
          refine hQ1 _ _ kb4 ?_
          have hb4 := hb3.thn hB kb4
          refine can_str rfl rfl rfl rfl ko4.rd kb4.size ?_
          simp only [Act.put, List.setIfInBounds_toArray, List.set_cons_zero, List.set_cons_succ]
          refine can_pure rfl rfl rfl (exec_cat rfl rfl (by have := lbs_len u M; omega)) ?_
          simp only [Act.put, List.setIfInBounds_toArray, List.set_cons_zero, List.set_cons_succ]
          refine can_pure rfl rfl rfl (exec_seq rfl rfl) ?_
          simp only [Act.put, List.setIfInBounds_toArray, List.set_cons_zero, List.set_cons_succ]
          repeat ((first | (refine can_pure (v := ?_) rfl rfl rfl ?_ ?_; rotate_left; · (intro w'; go_simp; try with_reducible rfl)) | (refine can_skip rfl rfl rfl ?_)); simp only [Act.put, List.setIfInBounds_toArray, List.set_cons_zero, List.set_cons_succ])
          refine can_str rfl rfl rfl rfl ((hr.below hb4).more hb4.size) (Nat.le_refl _) ?_
          simp only [Act.put, List.setIfInBounds_toArray, List.set_cons_zero, List.set_cons_succ]
          repeat ((first | (refine can_pure (v := ?_) rfl rfl rfl ?_ ?_; rotate_left; · (intro w'; go_simp; try with_reducible rfl)) | (refine can_skip rfl rfl rfl ?_)); simp only [Act.put, List.setIfInBounds_toArray, List.set_cons_zero, List.set_cons_succ])
          refine can_make rfl rfl r4.heap.size (Nat.le_refl _) (fun Q1 hQ1 => ?_)
          go_wp2_with fail
          refine (own_any a0 len0 cap0 w.heap.size xs _ (hr.below hb4) hb4.size (by omega)).mono ?_
          rintro e r5 ⟨B5, d5, rfl, ko5, kb5⟩
          have hb5 := hb4.thn hB kb5
          go_wp2_with fail
          refine hQ1 _ _ kb5 ?_
          refine can_make rfl rfl r4.heap.size (Nat.le_refl _) (fun Q1 hQ1 => ?_)
          go_wp2_with fail
          refine (putbytes_any B5 a4 len0 d5 len4 cap4 r4.heap.size w.heap.size xs ys r5 ko5 kb5.size (htr.below hb5) hb4.size (by omega) (by omega)).mono ?_
          rintro e r6 ⟨B6, m6, d6, rfl, ko6, kb6⟩
          have hb6 := hb5.trans (kb6.mono hb4.size)
          have kz6 : r4.heap.size ≤ r6.heap.size := (kb5.trans kb6).size
          go_wp2_with fail
          refine hQ1 _ _ kb6 ?_
          refine can_str rfl rfl rfl rfl ko6.rd kz6 ?_
          simp only [Act.put, List.setIfInBounds_toArray, List.set_cons_zero, List.set_cons_succ]
          refine can_make rfl rfl r6.heap.size (Nat.le_refl _) (fun Q1 hQ1 => ?_)
          go_wp2_with fail
          refine (refputbytes_any a4 len4 cap4 w.heap.size ys r6 (htr.below hb6) hb6.size (by omega)).mono ?_
          rintro e r7 ⟨B7, m7, d7, rfl, ko7, kb7⟩
          have hb7 := hb6.thn hB kb7
          go_wp2_with fail
          refine hQ1 _ _ kb7 ?_
          refine can_str rfl rfl rfl rfl ko7.rd kb7.size ?_
          simp only [Act.put, List.setIfInBounds_toArray, List.set_cons_zero, List.set_cons_succ]
          refine can_pure rfl rfl rfl (exec_cat rfl rfl (by omega)) ?_
          simp only [Act.put, List.setIfInBounds_toArray, List.set_cons_zero, List.set_cons_succ]
          refine can_pure rfl rfl rfl (exec_seq rfl rfl) ?_
          simp only [Act.put, List.setIfInBounds_toArray, List.set_cons_zero, List.set_cons_succ]
          repeat ((first | (refine can_pure (v := ?_) rfl rfl rfl ?_ ?_; rotate_left; · (intro w'; go_simp; try with_reducible rfl)) | (refine can_skip rfl rfl rfl ?_)); simp only [Act.put, List.setIfInBounds_toArray, List.set_cons_zero, List.set_cons_succ])
          refine can_make rfl rfl r7.heap.size (Nat.le_refl _) (fun Q1 hQ1 => ?_)
          go_wp2_with fail
          refine (works_any _).mono ?_
          rintro e r8 ⟨rfl, kb8⟩
          have hb8 := hb7.thn hB kb8
          go_wp2_with fail
          refine hQ1 _ _ kb8 ?_
          repeat ((first | (refine can_pure (v := ?_) rfl rfl rfl ?_ ?_; rotate_left; · (intro w'; go_simp; try with_reducible rfl)) | (refine can_skip rfl rfl rfl ?_)); simp only [Act.put, List.setIfInBounds_toArray, List.set_cons_zero, List.set_cons_succ])
          refine can_done ?_
          go_wp2
          go_ret
          exact ⟨rfl, hb8⟩
    · go_enter Try.func11, Try.ntmps11
      go_wp2_with fail
      refine (works_any _).mono ?_
      rintro e w3 ⟨rfl, hb3⟩
      go_wp2_with fail
      go_ret
      exact ⟨rfl, hb3⟩
  · go_enter Try.func11, Try.ntmps11
    go_wp2_with fail
    refine (works_any _).mono ?_
    rintro e w3 ⟨rfl, hb3⟩
    go_wp2_with fail
    go_ret
    exact ⟨rfl, hb3⟩

/-! ### THE ROW's STEP: WRITTEN OUT: LEAVE IT -/
set_option maxRecDepth 100000 in
theorem lifted (os : Os) (started : os.Started) (H : Type) (enc : TypeId × Value → H) :
    ReturnsInHanded {} Try.checked os 11 .any (Rows.wirePutsSpec.pre6 enc Try.prog Try.f11 Rows.wirePutsRow.domain false) (Rows.wirePutsSpec.post enc Try.prog Try.f11 false true false false) := by
  refine returnsInHanded_of_change (C := Try.checked) own started (by kernel_rfl) Try.func11
    (ChangeSpec.witness6 (enc := enc) (C := Try.checked) false ⟨#[], #[.slice none 0 0, .int .i64 0, .int .u64 0, .int .i64 0, .slice none 0 0], []⟩ 8 (by kernel_rfl) (by kernel_rfl) (by kernel_rfl) (by kernel_rfl)) ?_
  intro W base args ds gs before hval0 hW hcnd _
  have hval : ∀ (j : Nat) t v, Try.f11.params[j]? = some t → args[j]? = some v → Value.okWide Try.prog W .any base t v := hval0
  have hW' := hW
  obtain ⟨p, q, hA0, hV, rfl, hfz, hnd⟩ := hW
  have hA : DataW.TrodAll enc Try.prog W 0 (fun _ => true) true Try.f11.params.toList args.toList ds p := hA0
  rw [Try.params11] at hA hval
  obtain ⟨v0, vs0, d0, ds0, p0, q0, hargs, rfl, rfl, h0, r0⟩ := trodAll_cons hA
  obtain ⟨v1, vs1, d1, ds1, p1, q1, rfl, rfl, rfl, h1, r1⟩ := trodAll_cons r0
  obtain ⟨v2, vs2, d2, ds2, p2, q2, rfl, rfl, rfl, h2, r2⟩ := trodAll_cons r1
  obtain ⟨v3, vs3, d3, ds3, p3, q3, rfl, rfl, rfl, h3, r3⟩ := trodAll_cons r2
  obtain ⟨v4, vs4, d4, ds4, p4, q4, rfl, rfl, rfl, h4, r4⟩ := trodAll_cons r3
  obtain ⟨rfl, rfl, rfl⟩ := trodAll_nil r4
  obtain rfl : args = #[v0, v1, v2, v3, v4] := by cases args; simp_all
  obtain ⟨rfl, rfl⟩ := trodVars_none hV
  obtain ⟨a0, len0, cap0, rfl⟩ := okWide_slice Try.underlying22 (hval 0 22 v0 rfl rfl)
  have k0 := h0
  have lt0 : ∀ x ∈ p0, x.block < W.heap.size := by obtain ⟨m, hm⟩ := k0; exact DataW.trod_lt m _ _ _ hm
  obtain ⟨z0, w0⟩ : ∃ zs, IsRow .u8 W a0 len0 cap0 zs := by
    obtain ⟨fuel, hf⟩ := h0
    rcases open_ints Try.underlying22 Try.underlying5 (by kernel_rfl) hf with ⟨hcs, _⟩ | ⟨x, l, c, zs, hcs, _, hl, hm, hz, _, hcell, hwz⟩
    · simp [Value.cells] at hcs
      obtain ⟨rfl, rfl, rfl⟩ := hcs
      exact ⟨[], .inl ⟨rfl, rfl, rfl, rfl⟩⟩
    · simp [Value.cells] at hcs
      obtain ⟨rfl, rfl, rfl⟩ := hcs
      exact ⟨zs, .inr ⟨_, rfl, hl, hm, by simpa using hz, hcell, hwz⟩⟩
  obtain ⟨a1, rfl, rfl, rfl, w1⟩ := open_int Try.underlying2 (hval 1 2 v1 rfl rfl) h1
  obtain ⟨a2, rfl, rfl, rfl, w2⟩ := open_int Try.underlying52 (hval 2 52 v2 rfl rfl) h2
  obtain ⟨a3, rfl, rfl, rfl, w3⟩ := open_int Try.underlying3 (hval 3 3 v3 rfl rfl) h3
  obtain ⟨a4, len4, cap4, rfl⟩ := okWide_slice Try.underlying22 (hval 4 22 v4 rfl rfl)
  have k4 := h4
  have lt4 : ∀ x ∈ p4, x.block < W.heap.size := by obtain ⟨m, hm⟩ := k4; exact DataW.trod_lt m _ _ _ hm
  obtain ⟨z4, w4⟩ : ∃ zs, IsRow .u8 W a4 len4 cap4 zs := by
    obtain ⟨fuel, hf⟩ := h4
    rcases open_ints Try.underlying22 Try.underlying5 (by kernel_rfl) hf with ⟨hcs, _⟩ | ⟨x, l, c, zs, hcs, _, hl, hm, hz, _, hcell, hwz⟩
    · simp [Value.cells] at hcs
      obtain ⟨rfl, rfl, rfl⟩ := hcs
      exact ⟨[], .inl ⟨rfl, rfl, rfl, rfl⟩⟩
    · simp [Value.cells] at hcs
      obtain ⟨rfl, rfl, rfl⟩ := hcs
      exact ⟨zs, .inr ⟨_, rfl, hl, hm, by simpa using hz, hcell, hwz⟩⟩
  clear hA0 hval0
  refine (walk a0 len0 cap0 z0 a1 a2 a3 a4 len4 cap4 z4 W w0 w1 w2 w3 w4).mono fun e W' ⟨he, bel⟩ => ?_
  subst he
  exact ⟨_, rfl, _, _, _, [], _, [], hW', trodAll_mk1 (shut_bool Try.underlying4 _), (trodAll_cons_mk (Below.trod laidOut (by kernel_rfl) (of_decide_eq_true (by kernel_rfl)) k0 bel lt0) (trodAll_cons_mk (shut_int Try.underlying2 w1) (trodAll_cons_mk (shut_int Try.underlying52 w2) (trodAll_cons_mk (shut_int Try.underlying3 w3) (trodAll_cons_mk (Below.trod laidOut (by kernel_rfl) (of_decide_eq_true (by kernel_rfl)) k4 bel lt4) trodAll_mk0))))), rfl, bel.frame _, fun h => by cases h⟩

theorem over : Rows.wirePutsRow.holds Try.pinned (OpenSpec.ofChange Rows.wirePutsSpec) :=
  OpenClaim.holds_of_wide 11 Try.f11 rfl rfl rfl rfl rfl rfl rfl ⟨rfl, rfl, rfl, rfl, rfl⟩ rfl rfl rfl rfl rfl (by kernel_rfl) Try.func11 (by kernel_rfl)
    (of_decide_eq_true (by kernel_rfl)) (by unfold Func.isWrapper; first | (rw [if_pos (by decide +kernel)]; kernel_rfl) | (rw [if_neg (by decide +kernel)]; exact ⟨rfl, rfl⟩))
    (fun os started H enc _ => lifted os started H enc)

/-- ████ THE STATEMENT ████ -/
theorem proved : Rows.WirePutsSaid := over
#print axioms proved
end Go.Proofs.Ytodgnlhakafhoaa.wirePuts
