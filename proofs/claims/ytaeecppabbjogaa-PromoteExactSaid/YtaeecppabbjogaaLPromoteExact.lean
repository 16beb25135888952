/- What is proved: for every input the Go function avocetlaw05.PromoteExact returns true and leaves its arguments as they were. Conditions: none beyond the given statement's own. -/
import Derived.Test.YtaeecppabbjogaaRows
import Derived.WalkKit
import Derived.ProofKit
import Derived.OpenShut
import Derived.Test.YtaeecppabbjogaaProX
import Derived.ShutString
namespace Go.Proofs.Ytaeecppabbjogaa.promoteExact
open Go.ChangeShapes Go.WideShapes Go.ChangeAt Go.RowKit
open Num ProN Pro
open Go.ChangeMaps (open_string shut_string)
set_option linter.unusedVariables false      -- a walk need not use every 'w<i>' (that an integer argument fits its kind)

theorem own : ownKnob Try.prog.godebug = none := by kernel_rfl

/-! ### STEP 1: THE WALK: the Go text returns true. 'Grown w w'': the world has at most new blocks (Derived/RowKit3.lean). Part the cases AHEAD of 'go_enter' where a test parts the walk; take each callee by a contract of your own. -/
theorem walk (a0 : Int) (a1 : Int) (a2 : Int) (w0 : (Lit.int .i32 a0).wf = true) (w1 : (Lit.int .i64 a1).wf = true) (w2 : (Lit.int .u64 a2).wf = true) (w : World) :
    Calls Try.prog 9 #[.int .i32 a0, .int .i64 a1, .int .u64 a2] w fun e w' => e = .returned (.bool true) ∧ Grown w w' := by
  obtain ⟨a1l, a1h⟩ := Fits.i32 w0
  obtain ⟨a2l, a2h⟩ := Fits.i64 w1
  obtain ⟨a3l, a3h⟩ := Fits.u64 w2
  obtain ⟨d, rfl⟩ := Int.eq_ofNat_of_zero_le a3l
  have hd : d < 18446744073709551616 := by omega
  have hW := wide_flt (a0 / 256) (by omega) (by omega)
  obtain ⟨hK, hKi⟩ := whole_dbl (a1 / 2048) (by omega) (by omega)
  have HW := Lib.hid hW
  have HK := Lib.hid hK
  have HKi := Lib.hid hKi
  clear hW hK hKi
  cases hI : isWhole d with
  | false =>
    have hw0 := Lib.hid (whole_not hI)
    have HI := Lib.hid hI
    clear hI
    go_enter Try.func9, Try.ntmps9
    go_wp2_with fail
    refine (works_any _).mono ?_
    rintro e w1 ⟨rfl, hg1⟩
    go_wp2_with fail
    refine (float_any (a0 / 256) (by omega) (by omega) _).mono ?_
    rintro e w2 ⟨rfl, hg2⟩
    go_wp2_with fail
    refine (wide_any _ (flt_lt _ (by omega) (by omega)) _).mono ?_
    rintro e w' ⟨rfl, rfl⟩
    rw [HW.out]
    go_wp2_with fail
    refine (double_any (a0 / 256) (by omega) (by omega) _).mono ?_
    rintro e w3 ⟨rfl, hg3⟩
    go_wp2_with fail
    refine (double_any (a1 / 2048) (by omega) (by omega) _).mono ?_
    rintro e w4 ⟨rfl, hg4⟩
    go_wp2_with fail
    refine (whole_any _ (dbl_lt _ (by omega) (by omega)) _).mono ?_
    rintro e w5 ⟨rfl, hg5⟩
    rw [HK.out, HKi.out]
    go_wp2_with fail
    refine (whole_any d hd _).mono ?_
    rintro e w6 ⟨rfl, hg6⟩
    rw [HI.out, hw0.out]
    go_wp2_with fail
    go_ret
    exact ⟨rfl, grown_trans (grown_trans (grown_trans (grown_trans (grown_trans hg1 hg2) hg3) hg4) hg5) hg6⟩
  | true =>
    obtain ⟨hD, hl, hh⟩ := dbl_whole hd hI
    have HI := Lib.hid hI
    clear hI
    generalize hw : whole d = y at hD hl hh
    have Hw := Lib.hid hw
    clear hw
    have hcase : (((dbl y : Nat) : Int) == (d : Int)) = true ∨ ((((dbl y : Nat) : Int) == (d : Int)) = false ∧ ((d : Int) == 9223372036854775808) = true) := by
      by_cases h : dbl y = d
      · left; simp [h]
      · right; exact ⟨by simp; omega, by simp; omega⟩
    clear hD
    rcases hcase with h | ⟨h, h'⟩
    all_goals
      go_enter Try.func9, Try.ntmps9
      go_wp2_with fail
      refine (works_any _).mono ?_
      rintro e w1 ⟨rfl, hg1⟩
      go_wp2_with fail
      refine (float_any (a0 / 256) (by omega) (by omega) _).mono ?_
      rintro e w2 ⟨rfl, hg2⟩
      go_wp2_with fail
      refine (wide_any _ (flt_lt _ (by omega) (by omega)) _).mono ?_
      rintro e w' ⟨rfl, rfl⟩
      rw [HW.out]
      go_wp2_with fail
      refine (double_any (a0 / 256) (by omega) (by omega) _).mono ?_
      rintro e w3 ⟨rfl, hg3⟩
      go_wp2_with fail
      refine (double_any (a1 / 2048) (by omega) (by omega) _).mono ?_
      rintro e w4 ⟨rfl, hg4⟩
      go_wp2_with fail
      refine (whole_any _ (dbl_lt _ (by omega) (by omega)) _).mono ?_
      rintro e w5 ⟨rfl, hg5⟩
      rw [HK.out, HKi.out]
      go_wp2_with fail
      refine (whole_any d hd _).mono ?_
      rintro e w6 ⟨rfl, hg6⟩
      rw [HI.out, Hw.out]
      go_wp2_with fail
      refine (double_any y hl hh _).mono ?_
      rintro e w7 ⟨rfl, hg7⟩
      go_wp2_with fail
      go_ret
      exact ⟨rfl, grown_trans (grown_trans (grown_trans (grown_trans (grown_trans (grown_trans hg1 hg2) hg3) hg4) hg5) hg6) hg7⟩

/-! ### THE ROW's STEP: WRITTEN OUT: LEAVE IT -/
set_option maxRecDepth 100000 in
theorem lifted (os : Os) (started : os.Started) (H : Type) (enc : TypeId × Value → H) :
    ReturnsInHanded {} Try.checked os 9 .any (Rows.promoteExactSpec.pre6 enc Try.prog Try.f9 Rows.promoteExactRow.domain false) (Rows.promoteExactSpec.post enc Try.prog Try.f9 false true false false) := by
  refine returnsInHanded_of_change (C := Try.checked) own started (by kernel_rfl) Try.func9
    (ChangeSpec.witness6 (enc := enc) (C := Try.checked) false ⟨#[], #[.int .i32 0, .int .i64 0, .int .u64 0], []⟩ 8 (by kernel_rfl) (by kernel_rfl) (by kernel_rfl) (by kernel_rfl)) ?_
  intro W base args ds gs before hval0 hW hcnd _
  have hval : ∀ (j : Nat) t v, Try.f9.params[j]? = some t → args[j]? = some v → Value.okWide Try.prog W .any base t v := hval0
  have hW' := hW
  obtain ⟨p, q, hA0, hV, rfl, hfz, hnd⟩ := hW
  have hA : DataW.TrodAll enc Try.prog W 0 (fun _ => true) true Try.f9.params.toList args.toList ds p := hA0
  rw [Try.params9] at hA hval
  obtain ⟨v0, vs0, d0, ds0, p0, q0, hargs, rfl, rfl, h0, r0⟩ := trodAll_cons hA
  obtain ⟨v1, vs1, d1, ds1, p1, q1, rfl, rfl, rfl, h1, r1⟩ := trodAll_cons r0
  obtain ⟨v2, vs2, d2, ds2, p2, q2, rfl, rfl, rfl, h2, r2⟩ := trodAll_cons r1
  obtain ⟨rfl, rfl, rfl⟩ := trodAll_nil r2
  obtain rfl : args = #[v0, v1, v2] := by cases args; simp_all
  obtain ⟨rfl, rfl⟩ := trodVars_none hV
  obtain ⟨a0, rfl, rfl, rfl, w0⟩ := open_int Try.underlying21 (hval 0 21 v0 rfl rfl) h0
  obtain ⟨a1, rfl, rfl, rfl, w1⟩ := open_int Try.underlying2 (hval 1 2 v1 rfl rfl) h1
  obtain ⟨a2, rfl, rfl, rfl, w2⟩ := open_int Try.underlying22 (hval 2 22 v2 rfl rfl) h2
  clear hA0 hval0
  simp only [List.append_nil] at hW'
  refine (walk a0 a1 a2 w0 w1 w2 W).mono fun e W' ⟨he, hg⟩ => ?_
  subst he
  exact ⟨_, rfl, post_of_same (pa := []) (pv := []) hW' (fun _ _ _ => (trodAll_cons_mk (shut_bool Try.underlying4 _) trodAll_mk0)) (fun sp _ => (trodAll_cons_mk (shut_int Try.underlying21 w0) (trodAll_cons_mk (shut_int Try.underlying2 w1) (trodAll_cons_mk (shut_int Try.underlying22 w2) trodAll_mk0)))) (fun _ _ => rfl) rfl
    (hg.frame _) hg.2.1 (ok_one (by kernel_rfl) rfl (okWide_bool_mk Try.underlying4 _))⟩

theorem over : Rows.promoteExactRow.holds Try.pinned (OpenSpec.ofChange Rows.promoteExactSpec) :=
  OpenClaim.holds_of_wide 9 Try.f9 rfl rfl rfl rfl rfl rfl rfl ⟨rfl, rfl, rfl, rfl, rfl⟩ rfl rfl rfl rfl rfl (by kernel_rfl) Try.func9 (by kernel_rfl)
    (of_decide_eq_true (by kernel_rfl)) (by unfold Func.isWrapper; first | (rw [if_pos (by decide +kernel)]; kernel_rfl) | (rw [if_neg (by decide +kernel)]; exact ⟨rfl, rfl⟩))
    (fun os started H enc _ => lifted os started H enc)

/-- ████ THE STATEMENT ████ -/
theorem proved : Rows.PromoteExactSaid :=
  over
#print axioms proved
end Go.Proofs.Ytaeecppabbjogaa.promoteExact
