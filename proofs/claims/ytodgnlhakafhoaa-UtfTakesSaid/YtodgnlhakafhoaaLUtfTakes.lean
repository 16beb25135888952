/- What is proved: for every input the Go function avocetlaw03.UtfTakes returns true and leaves its arguments as they were. Conditions: none beyond the given statement's own. -/
import Derived.Test.YtodgnlhakafhoaaRows
import Derived.WalkKit
import Derived.ProofKit
import Derived.OpenShut
import Derived.Test.YtodgnlhakafhoaaUtfE
import Derived.Test.YtodgnlhakafhoaaCan
import Derived.ShutString
import Derived.ChangeOld
import Derived.Below
namespace Go.Proofs.Ytodgnlhakafhoaa.utfTakes
open Go.ChangeShapes Go.WideShapes Go.ChangeAt Go.RowKit
open Num Mem Ut
open Go.ChangeMaps (open_string shut_string)
set_option linter.unusedVariables false

theorem own : ownKnob Try.prog.godebug = none := by kernel_rfl
theorem laidOut : laidOutB Try.prog = true := by kernel_rfl

/-- WHAT THE WALK IS TOLD OF A SLICE OF INTEGERS THAT CAME IN: it is nil; or it leads to a row of 'cap' cells, the numbers 'zs' (the first 'len' are its elements, the rest its spare room), each fitting its kind. -/
def IsRow (k : IntKind) (w : World) (a : Option Addr) (len cap : Nat) (zs : List Int) : Prop :=
  (a = none ∧ len = 0 ∧ cap = 0 ∧ zs = []) ∨
  ∃ x, a = some x ∧ len ≤ cap ∧ cap ≤ maxLen ∧ zs.length = cap ∧ (∀ i, i < zs.length → w.cell? (x.add i) = some (.int k (zs.getD i 0))) ∧ ∀ n ∈ zs, (Lit.int k n).wf = true

/-! ### STEP 1: THE WALK: the Go text returns true, AND WRITES NOTHING THAT WAS THERE: 'Below w.heap.size w w'' (Derived/Below.lean: '.refl', '.alloc', '.drew', '.setCell' at a new block, '.trans'). Open each 'IsRow' by 'rcases' AHEAD of 'go_enter'; part every test ahead of the walk. -/
theorem walk (a0 : Option Addr) (len0 cap0 : Nat) (z0 : List Int) (a1 : Int) (w : World) (w0 : IsRow .u8 w a0 len0 cap0 z0) (w1 : (Lit.int .i64 a1).wf = true) :
    Calls Try.prog 9 #[.slice a0 len0 cap0, .int .i64 a1] w fun e w' => e = .returned (.bool true) ∧ Below w.heap.size w w' := by
  obtain ⟨xs, hr, hlc, hlm⟩ := rd_row w0
  obtain ⟨a1l, a1h⟩ := Fits.i64 w1
  unfold maxLen at hlm
  have hB : w.heap.size ≤ w.heap.size := Nat.le_refl _
  by_cases h3 : len0 ≤ 2000
  · have hT := take_any a0 len0 cap0 w.heap.size a1 xs w hr (by omega) (by omega) (by omega)
    have hR := reftake_any a0 len0 cap0 w.heap.size a1 xs w hr hB hlc (by omega) (by omega) (by omega)
    have hN : uN xs a1 ≤ 1114111 := by
      unfold uN
      by_cases h : 0 ≤ a1 ∧ a1 ≤ xs.length
      · rw [if_pos h]
        by_cases h0 : (utk (xs.drop a1.toNat)).2.2 = 0
        · exact (utk_ok h0).2.1
        · rcases utk_err h0 with e | e <;> rw [e] <;> omega
      · rw [if_neg h]; omega
    generalize uN xs a1 = N at hT hR hN
    generalize uTo xs a1 = T at hT hR
    generalize uE xs a1 = E at hT hR
    have HT := Lib.hid hT
    have HR := Lib.hid hR
    clear hT hR
    have hC := count_any a0 len0 cap0 w.heap.size xs
    have hD := refcount_any a0 len0 cap0 w.heap.size xs
    have hG := right_any a0 len0 cap0 w.heap.size xs
    cases hu : ucount xs with
    | none =>
      have e1 : ucM xs = 0 := by unfold ucM; rw [hu]; rfl
      have e2 : ucE xs = 11 := by unfold ucE; rw [hu]; rfl
      have e3 : ucR xs = -1 := by unfold ucR; rw [hu]
      rw [e1, e2] at hC
      rw [e3] at hD
      rw [hu] at hG
      have HC := Lib.hid hC
      have HD := Lib.hid hD
      have HG := Lib.hid hG
      clear hC hD hG e1 e2 e3 hu
      go_enter Try.func9, Try.ntmps9
      go_wp2_with fail
      refine HT.out.mono ?_
      rintro e w' ⟨rfl, rfl⟩
      go_wp2_with fail
      refine HR.out.mono ?_
      rintro e w2 ⟨rfl, hb2⟩
      go_wp2_with fail
      refine (HC.out w2 (hr.below' hb2 hB) (by omega)).mono ?_
      rintro e w' ⟨rfl, rfl⟩
      go_wp2_with fail
      refine (HD.out w2 (hr.below' hb2 hB) hb2.size hlc (by omega)).mono ?_
      rintro e w4 ⟨rfl, hb4⟩
      have hb24 := hb2.thn hB hb4
      go_wp2_with fail
      refine (HG.out w4 (hr.below' hb24 hB) (by omega)).mono ?_
      rintro e w' ⟨rfl, rfl⟩
      go_wp2_with fail
      refine (works_any _).mono ?_
      rintro e w6 ⟨rfl, hb6⟩
      go_wp2_with fail
      go_ret
      exact ⟨rfl, hb24.thn hB hb6⟩
    | some m =>
      have hml : m ≤ 1000000 := by
        have := ucount_le hu
        have := hr.len
        omega
      have e1 : ucM xs = m := by unfold ucM; rw [hu]; rfl
      have e2 : ucE xs = 0 := by unfold ucE; rw [hu]; rfl
      have e3 : ucR xs = m := by unfold ucR; rw [hu]
      rw [e1, e2] at hC
      rw [e3] at hD
      rw [hu] at hG
      have HC := Lib.hid hC
      have HD := Lib.hid hD
      have HG := Lib.hid hG
      clear hC hD hG e1 e2 e3 hu
      go_enter Try.func9, Try.ntmps9
      go_wp2_with fail
      refine HT.out.mono ?_
      rintro e w' ⟨rfl, rfl⟩
      go_wp2_with fail
      refine HR.out.mono ?_
      rintro e w2 ⟨rfl, hb2⟩
      go_wp2_with fail
      refine (HC.out w2 (hr.below' hb2 hB) (by omega)).mono ?_
      rintro e w' ⟨rfl, rfl⟩
      go_wp2_with fail
      refine (HD.out w2 (hr.below' hb2 hB) hb2.size hlc (by omega)).mono ?_
      rintro e w4 ⟨rfl, hb4⟩
      have hb24 := hb2.thn hB hb4
      have hm0 : max (m : Int) 0 = m := by omega
      go_wp2_with fail
      refine (HG.out w4 (hr.below' hb24 hB) (by omega)).mono ?_
      rintro e w' ⟨rfl, rfl⟩
      go_wp2_with fail
      refine (works_any _).mono ?_
      rintro e w6 ⟨rfl, hb6⟩
      go_wp2_with fail
      go_ret
      exact ⟨rfl, hb24.thn hB hb6⟩
  · go_enter Try.func9, Try.ntmps9
    go_wp2_with fail
    refine (works_any _).mono ?_
    rintro e w3 ⟨rfl, hb3⟩
    go_wp2_with fail
    go_ret
    exact ⟨rfl, hb3⟩

/-! ### THE ROW's STEP: WRITTEN OUT: LEAVE IT -/
set_option maxRecDepth 100000 in
theorem lifted (os : Os) (started : os.Started) (H : Type) (enc : TypeId × Value → H) :
    ReturnsInHanded {} Try.checked os 9 .any (Rows.utfTakesSpec.pre6 enc Try.prog Try.f9 Rows.utfTakesRow.domain false) (Rows.utfTakesSpec.post enc Try.prog Try.f9 false true false false) := by
  refine returnsInHanded_of_change (C := Try.checked) own started (by kernel_rfl) Try.func9
    (ChangeSpec.witness6 (enc := enc) (C := Try.checked) false ⟨#[], #[.slice none 0 0, .int .i64 0], []⟩ 8 (by kernel_rfl) (by kernel_rfl) (by kernel_rfl) (by kernel_rfl)) ?_
  intro W base args ds gs before hval0 hW hcnd _
  have hval : ∀ (j : Nat) t v, Try.f9.params[j]? = some t → args[j]? = some v → Value.okWide Try.prog W .any base t v := hval0
  have hW' := hW
  obtain ⟨p, q, hA0, hV, rfl, hfz, hnd⟩ := hW
  have hA : DataW.TrodAll enc Try.prog W 0 (fun _ => true) true Try.f9.params.toList args.toList ds p := hA0
  rw [Try.params9] at hA hval
  obtain ⟨v0, vs0, d0, ds0, p0, q0, hargs, rfl, rfl, h0, r0⟩ := trodAll_cons hA
  obtain ⟨v1, vs1, d1, ds1, p1, q1, rfl, rfl, rfl, h1, r1⟩ := trodAll_cons r0
  obtain ⟨rfl, rfl, rfl⟩ := trodAll_nil r1
  obtain rfl : args = #[v0, v1] := by cases args; simp_all
  obtain ⟨rfl, rfl⟩ := trodVars_none hV
  obtain ⟨a0, len0, cap0, rfl⟩ := okWide_slice Try.underlying22 (hval 0 22 v0 rfl rfl)
  have k0 := h0
  have lt0 : ∀ x ∈ p0, x.block < W.heap.size := by obtain ⟨m, hm⟩ := k0; exact DataW.trod_lt m _ _ _ hm
  obtain ⟨z0, w0⟩ : ∃ zs, IsRow .u8 W a0 len0 cap0 zs := by
    obtain ⟨fuel, hf⟩ := h0
    rcases open_ints Try.underlying22 Try.underlying5 (by kernel_rfl) hf with ⟨hcs, _⟩ | ⟨x, l, c, zs, hcs, _, hl, hm, hz, _, hcell, hwz⟩
    · simp [Value.cells] at hcs
      obtain ⟨rfl, rfl, rfl⟩ := hcs
      exact ⟨[], .inl ⟨rfl, rfl, rfl, rfl⟩⟩
    · simp [Value.cells] at hcs
      obtain ⟨rfl, rfl, rfl⟩ := hcs
      exact ⟨zs, .inr ⟨_, rfl, hl, hm, by simpa using hz, hcell, hwz⟩⟩
  obtain ⟨a1, rfl, rfl, rfl, w1⟩ := open_int Try.underlying3 (hval 1 3 v1 rfl rfl) h1
  clear hA0 hval0
  refine (walk a0 len0 cap0 z0 a1 W w0 w1).mono fun e W' ⟨he, bel⟩ => ?_
  subst he
  exact ⟨_, rfl, _, _, _, [], _, [], hW', trodAll_mk1 (shut_bool Try.underlying4 _), (trodAll_cons_mk (Below.trod laidOut (by kernel_rfl) (of_decide_eq_true (by kernel_rfl)) k0 bel lt0) (trodAll_cons_mk (shut_int Try.underlying3 w1) trodAll_mk0)), rfl, bel.frame _, fun h => by cases h⟩

theorem over : Rows.utfTakesRow.holds Try.pinned (OpenSpec.ofChange Rows.utfTakesSpec) :=
  OpenClaim.holds_of_wide 9 Try.f9 rfl rfl rfl rfl rfl rfl rfl ⟨rfl, rfl, rfl, rfl, rfl⟩ rfl rfl rfl rfl rfl (by kernel_rfl) Try.func9 (by kernel_rfl)
    (of_decide_eq_true (by kernel_rfl)) (by unfold Func.isWrapper; first | (rw [if_pos (by decide +kernel)]; kernel_rfl) | (rw [if_neg (by decide +kernel)]; exact ⟨rfl, rfl⟩))
    (fun os started H enc _ => lifted os started H enc)

/-- ████ THE STATEMENT ████ -/
theorem proved : Rows.UtfTakesSaid := over
#print axioms proved
end Go.Proofs.Ytodgnlhakafhoaa.utfTakes
