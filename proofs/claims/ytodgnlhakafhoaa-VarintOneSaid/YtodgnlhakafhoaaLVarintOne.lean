/- What is proved: for every input the Go function avocetlaw02.VarintOne returns true and leaves its arguments as they were. Conditions: none beyond the given statement's own. -/
import Derived.Test.YtodgnlhakafhoaaRows
import Derived.WalkKit
import Derived.ProofKit
import Derived.OpenShut
import Derived.Test.YtodgnlhakafhoaaVarQ
import Derived.Test.YtodgnlhakafhoaaCanM
import Derived.BigQuiet
import Derived.Deep.QuietTactic
import Derived.ShutString
import Derived.ChangeOld
import Derived.Below
namespace Go.Proofs.Ytodgnlhakafhoaa.varintOne
open Go.ChangeShapes Go.WideShapes Go.ChangeAt Go.RowKit
open Num Zg Mem Vr Can
open Go.ChangeMaps (open_string shut_string)
set_option linter.unusedVariables false

theorem own : ownKnob Try.prog.godebug = none := by kernel_rfl
theorem laidOut : laidOutB Try.prog = true := by kernel_rfl

/-- WHAT THE WALK IS TOLD OF A SLICE OF INTEGERS THAT CAME IN: it is nil; or it leads to a row of 'cap' cells, the numbers 'zs' (the first 'len' are its elements, the rest its spare room), each fitting its kind. -/
def IsRow (k : IntKind) (w : World) (a : Option Addr) (len cap : Nat) (zs : List Int) : Prop :=
  (a = none ∧ len = 0 ∧ cap = 0 ∧ zs = []) ∨
  ∃ x, a = some x ∧ len ≤ cap ∧ cap ≤ maxLen ∧ zs.length = cap ∧ (∀ i, i < zs.length → w.cell? (x.add i) = some (.int k (zs.getD i 0))) ∧ ∀ n ∈ zs, (Lit.int k n).wf = true

/-! ### STEP 1: THE WALK: the Go text returns true, AND WRITES NOTHING THAT WAS THERE: 'Below w.heap.size w w'' (Derived/Below.lean: '.refl', '.alloc', '.drew', '.setCell' at a new block, '.trans'). Open each 'IsRow' by 'rcases' AHEAD of 'go_enter'; part every test ahead of the walk. -/
theorem walk (a0 : Option Addr) (len0 cap0 : Nat) (z0 : List Int) (a1 : Int) (w : World) (w0 : IsRow .u8 w a0 len0 cap0 z0) (w1 : (Lit.int .i64 a1).wf = true) :
    Calls Try.prog 4 #[.slice a0 len0 cap0, .int .i64 a1] w fun e w' => e = .returned (.bool true) ∧ Below w.heap.size w w' := by
  obtain ⟨xs, hr, hlc, hlm⟩ := rd_row w0
  obtain ⟨a1l, a1h⟩ := Fits.i64 w1
  unfold maxLen at hlm
  have hB : w.heap.size ≤ w.heap.size := Nat.le_refl _
  by_cases h3 : len0 ≤ 3000
  · have hT := fun w1 (hr1 : Rd w1 w.heap.size a0 len0 xs) (hs : w.heap.size ≤ w1.heap.size) => Take_any a0 len0 cap0 w.heap.size a1 xs w1 hr1 hs hlc (by omega)
    have hl := hr.len
    by_cases hE : tkE 10 1 xs a1 = 0
    · have hin : ¬ (a1 < 0 ∨ (xs.length : Int) < a1) := fun h => by rw [tkE_out h] at hE; cases hE
      obtain ⟨q, rfl⟩ := Int.eq_ofNat_of_zero_le (show 0 ≤ a1 by omega)
      have hE2 := hE
      rw [tkE_in (by omega)] at hE2
      obtain ⟨p1, p2, p3⟩ := tk_put (most := 10) (last := 1) (by omega) (by omega) (L := xs.drop q) (by omega)
      have hu := tk_lt 10 1 (by omega) (by omega) (xs.drop q) 0 0 (by omega) (by simp)
      rw [hE, tkN_in (by omega), tkTo_in (by omega)] at hT
      rw [List.length_drop] at p3
      have hz := zag_ge ((tk 10 1 0 0 (xs.drop q)).1 : Int) (by omega) (by omega)
      have hzz := zig_zag ((tk 10 1 0 0 (xs.drop q)).1 : Int) (by omega)
      generalize (tk 10 1 0 0 (xs.drop q)).1 = u at p1 hT hu hz hzz
      generalize (tk 10 1 0 0 (xs.drop q)).2.1 = cnt at p1 p2 p3 hT
      generalize zag (u : Int) = m at hT hz hzz
      obtain ⟨r, hr2⟩ : ∃ r, r = q + cnt := ⟨_, rfl⟩
      rw [← Int.natCast_add, ← hr2] at hT
      have hys : vput (zig m).toNat = (xs.take r).drop q := by
        rw [hzz, Int.toNat_natCast, p1, hr2, List.drop_take]
        congr 1
        omega
      have HT := Lib.hid hT
      have HY := Lib.hid hys
      have hqr : q < r := by omega
      have hrl : r ≤ len0 := by omega
      clear hT hys hzz hE hE2 p1 p2 p3 hr2 hin
      go_enter Try.func4, Try.ntmps4
      go_wp2_with fail
      refine (works_any _).mono ?_
      rintro e w3 ⟨rfl, hb3⟩
      go_wp2_with fail
      refine (HT.out w3 (hr.below hb3) hb3.size).mono ?_
      rintro e w4 ⟨rfl, hb4⟩
      go_wp2_with fail
      have hb34 := hb3.thn hB hb4
      refine region_can [0, 1, 2, 3, 4, 5, 6, 7, 8, 9, 10, 11, 12, 13, 14, 17, 18, 19, 20, 21, 15, 16, 22, 23, 24] [15] (by kernel_rfl) (by kernel_rfl) (by simp) (by kernel_rfl) (fun _ _ d _ _ h => by cases d <;> exact h) (fun wd hd hds => ?_)
      have Hds := Lib.hid hds
      clear hds
      have hbd := hb34.thn hB hd
      have hrd := hr.below hbd
      repeat ((first | (refine can_pure (v := ?_) rfl rfl rfl ?_ ?_; rotate_left; · (intro w'; go_simp; try with_reducible rfl)) | (refine can_skip rfl rfl rfl ?_)); simp only [Act.put, List.setIfInBounds_toArray, List.set_cons_zero, List.set_cons_succ])
      refine can_cut2 rfl rfl rfl rfl rfl rfl hrd (by omega) hrl hlc (fun A6 hr6 => ?_)
      simp only [Act.put, List.setIfInBounds_toArray, List.set_cons_zero, List.set_cons_succ]
      refine can_str rfl rfl rfl rfl hr6 (by omega) ?_
      simp only [Act.put, List.setIfInBounds_toArray, List.set_cons_zero, List.set_cons_succ]
      refine can_make rfl rfl w.heap.size (by omega) (fun Q1 hQ1 => ?_)
      go_wp2_with fail
      refine (put_any m (by omega) (by omega) none 0 0 [] wd.heap.size wd (Own.nil _ _) (Nat.le_refl _) (by omega)).mono ?_
      rintro e w5 ⟨A5, c5, rfl, ho5, hb5⟩
      rw [HY.out, List.nil_append, Nat.zero_add] at ho5
      have hb35 := hbd.thn hB hb5
      go_wp2_with fail
      refine hQ1 _ _ (hb5.mono hbd.size) ?_
      refine can_str rfl rfl rfl rfl ho5.rd hb35.size ?_
      simp only [Act.put, List.setIfInBounds_toArray, List.set_cons_zero, List.set_cons_succ]
      refine can_pure rfl rfl rfl (exec_seq rfl rfl) ?_
      simp only [Act.put, List.setIfInBounds_toArray, List.set_cons_zero, List.set_cons_succ]
      repeat ((first | (refine can_pure (v := ?_) rfl rfl rfl ?_ ?_; rotate_left; · (intro w'; go_simp; try with_reducible rfl)) | (refine can_skip rfl rfl rfl ?_)); simp only [Act.put, List.setIfInBounds_toArray, List.set_cons_zero, List.set_cons_succ])
      refine can_done ?_
      go_wp2
      go_ret
      exact ⟨rfl, hb35⟩
    · have hN : tkN 10 1 xs a1 = 0 := by
        by_cases hin : a1 < 0 ∨ (xs.length : Int) < a1
        · exact tkN_out hin
        · obtain ⟨q, rfl⟩ := Int.eq_ofNat_of_zero_le (show 0 ≤ a1 by omega)
          rw [tkE_in (by omega)] at hE
          rw [tkN_in (by omega), (tk_bad 10 1 (xs.drop q) 0 0 (by omega)).1]
          rfl
      have hTo : tkTo 10 1 xs a1 = a1 := by
        by_cases hin : a1 < 0 ∨ (xs.length : Int) < a1
        · exact tkTo_out hin
        · obtain ⟨q, rfl⟩ := Int.eq_ofNat_of_zero_le (show 0 ≤ a1 by omega)
          rw [tkE_in (by omega)] at hE
          rw [tkTo_in (by omega), (tk_bad 10 1 (xs.drop q) 0 0 (by omega)).2]
          simp
      rw [hN, hTo] at hT
      generalize tkE 10 1 xs a1 = err at hT hE
      have HT := Lib.hid hT
      have hne : (err != 0) = true := by simp [hE]
      clear hT hN hTo hE
      go_enter Try.func4, Try.ntmps4
      go_wp2_with fail
      refine (works_any _).mono ?_
      rintro e w3 ⟨rfl, hb3⟩
      go_wp2_with fail
      refine (HT.out w3 (hr.below hb3) hb3.size).mono ?_
      rintro e w4 ⟨rfl, hb4⟩
      go_wp2_with fail
      go_ret
      exact ⟨rfl, hb3.thn hB hb4⟩
  · go_enter Try.func4, Try.ntmps4
    go_wp2_with fail
    refine (works_any _).mono ?_
    rintro e w3 ⟨rfl, hb3⟩
    go_wp2_with fail
    go_ret
    exact ⟨rfl, hb3⟩

/-! ### THE ROW's STEP: WRITTEN OUT: LEAVE IT -/
set_option maxRecDepth 100000 in
theorem lifted (os : Os) (started : os.Started) (H : Type) (enc : TypeId × Value → H) :
    ReturnsInHanded {} Try.checked os 4 .any (Rows.varintOneSpec.pre6 enc Try.prog Try.f4 Rows.varintOneRow.domain false) (Rows.varintOneSpec.post enc Try.prog Try.f4 false true false false) := by
  refine returnsInHanded_of_change (C := Try.checked) own started (by kernel_rfl) Try.func4
    (ChangeSpec.witness6 (enc := enc) (C := Try.checked) false ⟨#[], #[.slice none 0 0, .int .i64 0], []⟩ 8 (by kernel_rfl) (by kernel_rfl) (by kernel_rfl) (by kernel_rfl)) ?_
  intro W base args ds gs before hval0 hW hcnd _
  have hval : ∀ (j : Nat) t v, Try.f4.params[j]? = some t → args[j]? = some v → Value.okWide Try.prog W .any base t v := hval0
  have hW' := hW
  obtain ⟨p, q, hA0, hV, rfl, hfz, hnd⟩ := hW
  have hA : DataW.TrodAll enc Try.prog W 0 (fun _ => true) true Try.f4.params.toList args.toList ds p := hA0
  rw [Try.params4] at hA hval
  obtain ⟨v0, vs0, d0, ds0, p0, q0, hargs, rfl, rfl, h0, r0⟩ := trodAll_cons hA
  obtain ⟨v1, vs1, d1, ds1, p1, q1, rfl, rfl, rfl, h1, r1⟩ := trodAll_cons r0
  obtain ⟨rfl, rfl, rfl⟩ := trodAll_nil r1
  obtain rfl : args = #[v0, v1] := by cases args; simp_all
  obtain ⟨rfl, rfl⟩ := trodVars_none hV
  obtain ⟨a0, len0, cap0, rfl⟩ := okWide_slice Try.underlying22 (hval 0 22 v0 rfl rfl)
  have k0 := h0
  have lt0 : ∀ x ∈ p0, x.block < W.heap.size := by obtain ⟨m, hm⟩ := k0; exact DataW.trod_lt m _ _ _ hm
  obtain ⟨z0, w0⟩ : ∃ zs, IsRow .u8 W a0 len0 cap0 zs := by
    obtain ⟨fuel, hf⟩ := h0
    rcases open_ints Try.underlying22 Try.underlying5 (by kernel_rfl) hf with ⟨hcs, _⟩ | ⟨x, l, c, zs, hcs, _, hl, hm, hz, _, hcell, hwz⟩
    · simp [Value.cells] at hcs
      obtain ⟨rfl, rfl, rfl⟩ := hcs
      exact ⟨[], .inl ⟨rfl, rfl, rfl, rfl⟩⟩
    · simp [Value.cells] at hcs
      obtain ⟨rfl, rfl, rfl⟩ := hcs
      exact ⟨zs, .inr ⟨_, rfl, hl, hm, by simpa using hz, hcell, hwz⟩⟩
  obtain ⟨a1, rfl, rfl, rfl, w1⟩ := open_int Try.underlying3 (hval 1 3 v1 rfl rfl) h1
  clear hA0 hval0
  refine (walk a0 len0 cap0 z0 a1 W w0 w1).mono fun e W' ⟨he, bel⟩ => ?_
  subst he
  exact ⟨_, rfl, _, _, _, [], _, [], hW', trodAll_mk1 (shut_bool Try.underlying4 _), (trodAll_cons_mk (Below.trod laidOut (by kernel_rfl) (of_decide_eq_true (by kernel_rfl)) k0 bel lt0) (trodAll_cons_mk (shut_int Try.underlying3 w1) trodAll_mk0)), rfl, bel.frame _, fun h => by cases h⟩

theorem over : Rows.varintOneRow.holds Try.pinned (OpenSpec.ofChange Rows.varintOneSpec) :=
  OpenClaim.holds_of_wide 4 Try.f4 rfl rfl rfl rfl rfl rfl rfl ⟨rfl, rfl, rfl, rfl, rfl⟩ rfl rfl rfl rfl rfl (by kernel_rfl) Try.func4 (by kernel_rfl)
    (of_decide_eq_true (by kernel_rfl)) (by unfold Func.isWrapper; first | (rw [if_pos (by decide +kernel)]; kernel_rfl) | (rw [if_neg (by decide +kernel)]; exact ⟨rfl, rfl⟩))
    (fun os started H enc _ => lifted os started H enc)

/-- ████ THE STATEMENT ████ -/
theorem proved : Rows.VarintOneSaid := over
#print axioms proved
end Go.Proofs.Ytodgnlhakafhoaa.varintOne
