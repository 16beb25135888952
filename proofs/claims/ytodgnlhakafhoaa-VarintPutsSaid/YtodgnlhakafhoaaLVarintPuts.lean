/- What is proved: for every input the Go function avocetlaw02.VarintPuts returns true and leaves its arguments as they were. Conditions: none beyond the given statement's own. -/
import Derived.Test.YtodgnlhakafhoaaRows
import Derived.WalkKit
import Derived.ProofKit
import Derived.OpenShut
import Derived.Test.YtodgnlhakafhoaaVarQ
import Derived.Test.YtodgnlhakafhoaaCan
import Derived.BigQuiet
import Derived.Deep.QuietTactic
import Derived.ShutString
import Derived.ChangeOld
import Derived.Below
namespace Go.Proofs.Ytodgnlhakafhoaa.varintPuts
open Go.ChangeShapes Go.WideShapes Go.ChangeAt Go.RowKit
open Num Zg Mem Vr Can
open Go.ChangeMaps (open_string shut_string)
set_option linter.unusedVariables false

theorem own : ownKnob Try.prog.godebug = none := by kernel_rfl
theorem laidOut : laidOutB Try.prog = true := by kernel_rfl

/-- WHAT THE WALK IS TOLD OF A SLICE OF INTEGERS THAT CAME IN: it is nil; or it leads to a row of 'cap' cells, the numbers 'zs' (the first 'len' are its elements, the rest its spare room), each fitting its kind. -/
def IsRow (k : IntKind) (w : World) (a : Option Addr) (len cap : Nat) (zs : List Int) : Prop :=
  (a = none ∧ len = 0 ∧ cap = 0 ∧ zs = []) ∨
  ∃ x, a = some x ∧ len ≤ cap ∧ cap ≤ maxLen ∧ zs.length = cap ∧ (∀ i, i < zs.length → w.cell? (x.add i) = some (.int k (zs.getD i 0))) ∧ ∀ n ∈ zs, (Lit.int k n).wf = true

/-! ### STEP 1: THE WALK: the Go text returns true, AND WRITES NOTHING THAT WAS THERE: 'Below w.heap.size w w'' (Derived/Below.lean: '.refl', '.alloc', '.drew', '.setCell' at a new block, '.trans'). Open each 'IsRow' by 'rcases' AHEAD of 'go_enter'; part every test ahead of the walk. -/
theorem walk (a0 : Option Addr) (len0 cap0 : Nat) (z0 : List Int) (a1 : Int) (w : World) (w0 : IsRow .u8 w a0 len0 cap0 z0) (w1 : (Lit.int .i64 a1).wf = true) :
    Calls Try.prog 5 #[.slice a0 len0 cap0, .int .i64 a1] w fun e w' => e = .returned (.bool true) ∧ Below w.heap.size w w' := by
  obtain ⟨xs, hr, hlc, hlm⟩ := rd_row w0
  obtain ⟨a1l, a1h⟩ := Fits.i64 w1
  unfold maxLen at hlm
  have hB : w.heap.size ≤ w.heap.size := Nat.le_refl _
  by_cases h3 : len0 ≤ 3000
  · have h3d : decide ((3000 : Int) < (len0 : Int)) = false := by simp; omega
    have hcat : ∀ ys : List UInt8, (⟨xs.toArray⟩ : ByteArray) ++ ⟨ys.toArray⟩ = ⟨(xs ++ ys).toArray⟩ := fun ys => by apply ByteArray.ext; simp
    have hpl := parts_pos (zig a1).toNat
    have hl := hr.len
    go_enter Try.func5, Try.ntmps5
    go_wp2
    refine region_can [0, 1, 2, 3, 5, 7, 10, 11, 12, 4, 6, 8, 9, 13, 14, 15, 16, 17, 18, 20, 19, 21, 22, 23, 24, 25, 26, 27, 28, 29] [4, 6, 8, 13, 19, 21, 26] (by kernel_rfl) (by kernel_rfl) (by simp) (by kernel_rfl) (fun _ _ d _ _ h => by cases d <;> exact h) (fun wd hd hds => ?_)
    have Hds := Lib.hid hds
    clear hds
    repeat ((first | (refine can_pure (v := ?_) rfl rfl rfl ?_ ?_; rotate_left; · (intro w'; go_simp; try with_reducible rfl)) | (refine can_skip rfl rfl rfl ?_)); simp only [Act.put, List.setIfInBounds_toArray, List.set_cons_zero, List.set_cons_succ])
    refine can_read rfl rfl rfl w.heap.size (by omega) _ (fun w' hb => exec_str rfl ((hr.below hd).below hb)) ?_
    simp only [Act.put, List.setIfInBounds_toArray, List.set_cons_zero, List.set_cons_succ]
    repeat ((first | (refine can_pure (v := ?_) rfl rfl rfl ?_ ?_; rotate_left; · (intro w'; go_simp; try with_reducible rfl)) | (refine can_skip rfl rfl rfl ?_)); simp only [Act.put, List.setIfInBounds_toArray, List.set_cons_zero, List.set_cons_succ])
    refine can_make rfl rfl w.heap.size (by omega) (fun Q1 hQ1 => ?_)
    go_wp2_with fail
    refine hQ1 _ _ ((Below.refl _ _).alloc hd.size _) ?_
    refine can_make rfl rfl w.heap.size (by omega) (fun Q1 hQ1 => ?_)
    go_wp2_with (at_builtin; refine wpl_app rfl rfl (Own.lit wd w.heap.size [] hd.size (by simp)) rfl ((hr.below hd).alloc hd.size _) (by omega) (by have := hd.size; simp; omega) ?_; intro A2 c2 w2 ho2 hb2; simp only [Nat.zero_add, List.nil_append] at ho2)
    have hd2 := (hd.al hB (.cells #[] 5)).trans hb2
    refine hQ1 _ _ hb2 ?_
    refine can_make rfl rfl w.heap.size (by omega) (fun Q1 hQ1 => ?_)
    go_wp2_with fail
    refine (put_any a1 a1l a1h A2 len0 c2 xs w.heap.size w2 ho2 hd2.size (by omega)).mono ?_
    rintro e w3 ⟨A3, c3, rfl, ho3, hb3⟩
    have hd3 := hd2.trans hb3
    go_wp2_with fail
    refine hQ1 _ _ hb3 ?_
    refine can_read rfl rfl rfl w3.heap.size hd3.size _ (fun w' hb => exec_str rfl (ho3.rd.below hb)) ?_
    simp only [Act.put, List.setIfInBounds_toArray, List.set_cons_zero, List.set_cons_succ]
    repeat ((first | (refine can_pure (v := ?_) rfl rfl rfl ?_ ?_; rotate_left; · (intro w'; go_simp; try with_reducible rfl)) | (refine can_skip rfl rfl rfl ?_)); simp only [Act.put, List.setIfInBounds_toArray, List.set_cons_zero, List.set_cons_succ])
    refine can_make rfl rfl w3.heap.size (by omega) (fun Q1 hQ1 => ?_)
    go_wp2_with fail
    refine (refput_any a1 a1l a1h w3.heap.size w3 (Nat.le_refl _)).mono ?_
    rintro e w4 ⟨A4, c4, rfl, ho4, hb4⟩
    have hd4 := hd3.thn hB hb4
    go_wp2_with fail
    refine hQ1 _ _ hb4 ?_
    refine can_read rfl rfl rfl w4.heap.size hb4.size _ (fun w' hb => exec_str rfl (ho4.rd.below hb)) ?_
    simp only [Act.put, List.setIfInBounds_toArray, List.set_cons_zero, List.set_cons_succ]
    repeat ((first | (refine can_pure (v := ?_) rfl rfl rfl ?_ ?_; rotate_left; · (intro w'; go_simp; try with_reducible rfl)) | (refine can_skip rfl rfl rfl ?_)); simp only [Act.put, List.setIfInBounds_toArray, List.set_cons_zero, List.set_cons_succ])
    refine can_pure rfl rfl rfl (exec_cat rfl rfl (by have := vput_len (zig a1).toNat; have := parts_le (u := (zig a1).toNat) (by have := zig_le a1 a1l a1h; omega); omega)) ?_
    simp only [Act.put, List.setIfInBounds_toArray, List.set_cons_zero, List.set_cons_succ]
    refine can_pure rfl rfl rfl (exec_seq rfl rfl) ?_
    simp only [Act.put, List.setIfInBounds_toArray, List.set_cons_zero, List.set_cons_succ]
    repeat ((first | (refine can_pure (v := ?_) rfl rfl rfl ?_ ?_; rotate_left; · (intro w'; go_simp; try with_reducible rfl)) | (refine can_skip rfl rfl rfl ?_)); simp only [Act.put, List.setIfInBounds_toArray, List.set_cons_zero, List.set_cons_succ])
    refine can_make rfl rfl w4.heap.size (by omega) (fun Q1 hQ1 => ?_)
    go_wp2_with fail
    refine (size_any a1 a1l a1h _).mono ?_
    rintro e w5 ⟨rfl, rfl⟩
    go_wp2_with fail
    refine hQ1 _ _ (Below.refl _ _) ?_
    refine can_make rfl rfl w4.heap.size (by omega) (fun Q1 hQ1 => ?_)
    go_wp2_with fail
    refine (refput_any a1 a1l a1h w4.heap.size w4 (Nat.le_refl _)).mono ?_
    rintro e w6 ⟨A6, c6, rfl, ho6, hb6⟩
    have hd6 := hd4.thn hB hb6
    go_wp2_with fail
    refine hQ1 _ _ hb6 ?_
    repeat ((first | (refine can_pure (v := ?_) rfl rfl rfl ?_ ?_; rotate_left; · (intro w'; go_simp; try with_reducible rfl)) | (refine can_skip rfl rfl rfl ?_)); simp only [Act.put, List.setIfInBounds_toArray, List.set_cons_zero, List.set_cons_succ])
    refine can_make rfl rfl w4.heap.size (by omega) (fun Q1 hQ1 => ?_)
    go_wp2_with fail
    refine (works_any _).mono ?_
    rintro e w7 ⟨rfl, hb7⟩
    have hd7 := hd6.thn hB hb7
    go_wp2_with fail
    refine hQ1 _ _ (hb7.mono hb6.size) ?_
    repeat ((first | (refine can_pure (v := ?_) rfl rfl rfl ?_ ?_; rotate_left; · (intro w'; go_simp; try with_reducible rfl)) | (refine can_skip rfl rfl rfl ?_)); simp only [Act.put, List.setIfInBounds_toArray, List.set_cons_zero, List.set_cons_succ])
    refine can_done ?_
    go_wp2
    go_ret
    exact ⟨rfl, hd7⟩
  · have h3' : (3000 : Int) < (len0 : Int) := by omega
    have h3'' : decide (3000 < len0) = true := by simp; omega
    go_enter Try.func5, Try.ntmps5
    go_wp2
    go_quiet (fail)
    go_wp2
    go_ret
    exact ⟨rfl, (Below.refl _ _).drewN _⟩

/-! ### THE ROW's STEP: WRITTEN OUT: LEAVE IT -/
set_option maxRecDepth 100000 in
theorem lifted (os : Os) (started : os.Started) (H : Type) (enc : TypeId × Value → H) :
    ReturnsInHanded {} Try.checked os 5 .any (Rows.varintPutsSpec.pre6 enc Try.prog Try.f5 Rows.varintPutsRow.domain false) (Rows.varintPutsSpec.post enc Try.prog Try.f5 false true false false) := by
  refine returnsInHanded_of_change (C := Try.checked) own started (by kernel_rfl) Try.func5
    (ChangeSpec.witness6 (enc := enc) (C := Try.checked) false ⟨#[], #[.slice none 0 0, .int .i64 0], []⟩ 8 (by kernel_rfl) (by kernel_rfl) (by kernel_rfl) (by kernel_rfl)) ?_
  intro W base args ds gs before hval0 hW hcnd _
  have hval : ∀ (j : Nat) t v, Try.f5.params[j]? = some t → args[j]? = some v → Value.okWide Try.prog W .any base t v := hval0
  have hW' := hW
  obtain ⟨p, q, hA0, hV, rfl, hfz, hnd⟩ := hW
  have hA : DataW.TrodAll enc Try.prog W 0 (fun _ => true) true Try.f5.params.toList args.toList ds p := hA0
  rw [Try.params5] at hA hval
  obtain ⟨v0, vs0, d0, ds0, p0, q0, hargs, rfl, rfl, h0, r0⟩ := trodAll_cons hA
  obtain ⟨v1, vs1, d1, ds1, p1, q1, rfl, rfl, rfl, h1, r1⟩ := trodAll_cons r0
  obtain ⟨rfl, rfl, rfl⟩ := trodAll_nil r1
  obtain rfl : args = #[v0, v1] := by cases args; simp_all
  obtain ⟨rfl, rfl⟩ := trodVars_none hV
  obtain ⟨a0, len0, cap0, rfl⟩ := okWide_slice Try.underlying22 (hval 0 22 v0 rfl rfl)
  have k0 := h0
  have lt0 : ∀ x ∈ p0, x.block < W.heap.size := by obtain ⟨m, hm⟩ := k0; exact DataW.trod_lt m _ _ _ hm
  obtain ⟨z0, w0⟩ : ∃ zs, IsRow .u8 W a0 len0 cap0 zs := by
    obtain ⟨fuel, hf⟩ := h0
    rcases open_ints Try.underlying22 Try.underlying5 (by kernel_rfl) hf with ⟨hcs, _⟩ | ⟨x, l, c, zs, hcs, _, hl, hm, hz, _, hcell, hwz⟩
    · simp [Value.cells] at hcs
      obtain ⟨rfl, rfl, rfl⟩ := hcs
      exact ⟨[], .inl ⟨rfl, rfl, rfl, rfl⟩⟩
    · simp [Value.cells] at hcs
      obtain ⟨rfl, rfl, rfl⟩ := hcs
      exact ⟨zs, .inr ⟨_, rfl, hl, hm, by simpa using hz, hcell, hwz⟩⟩
  obtain ⟨a1, rfl, rfl, rfl, w1⟩ := open_int Try.underlying2 (hval 1 2 v1 rfl rfl) h1
  clear hA0 hval0
  refine (walk a0 len0 cap0 z0 a1 W w0 w1).mono fun e W' ⟨he, bel⟩ => ?_
  subst he
  exact ⟨_, rfl, _, _, _, [], _, [], hW', trodAll_mk1 (shut_bool Try.underlying4 _), (trodAll_cons_mk (Below.trod laidOut (by kernel_rfl) (of_decide_eq_true (by kernel_rfl)) k0 bel lt0) (trodAll_cons_mk (shut_int Try.underlying2 w1) trodAll_mk0)), rfl, bel.frame _, fun h => by cases h⟩

theorem over : Rows.varintPutsRow.holds Try.pinned (OpenSpec.ofChange Rows.varintPutsSpec) :=
  OpenClaim.holds_of_wide 5 Try.f5 rfl rfl rfl rfl rfl rfl rfl ⟨rfl, rfl, rfl, rfl, rfl⟩ rfl rfl rfl rfl rfl (by kernel_rfl) Try.func5 (by kernel_rfl)
    (of_decide_eq_true (by kernel_rfl)) (by unfold Func.isWrapper; first | (rw [if_pos (by decide +kernel)]; kernel_rfl) | (rw [if_neg (by decide +kernel)]; exact ⟨rfl, rfl⟩))
    (fun os started H enc _ => lifted os started H enc)

/-- ████ THE STATEMENT ████ -/
theorem proved : Rows.VarintPutsSaid := over
#print axioms proved
end Go.Proofs.Ytodgnlhakafhoaa.varintPuts
