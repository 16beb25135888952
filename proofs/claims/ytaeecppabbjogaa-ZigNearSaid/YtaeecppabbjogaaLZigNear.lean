/- What is proved: for every input the Go function avocetlaw01.ZigNear returns true and leaves its arguments as they were. Conditions: none beyond the given statement's own. -/
import Derived.Test.YtaeecppabbjogaaRows
import Derived.WalkKit
import Derived.ProofKit
import Derived.OpenShut
import Derived.Test.YtaeecppabbjogaaZigW
import Derived.ShutString
namespace Go.Proofs.Ytaeecppabbjogaa.zigNear
open Go.ChangeShapes Go.WideShapes Go.ChangeAt Go.RowKit
open Num Zg ZgW
open Go.ChangeMaps (open_string shut_string)
set_option linter.unusedVariables false      -- a walk need not use every 'w<i>' (that an integer argument fits its kind)

theorem own : ownKnob Try.prog.godebug = none := by kernel_rfl

theorem not64 (a : Int) (h1 : -9223372036854775808 ≤ a) (h2 : a ≤ 9223372036854775807) : bits BinOp.xor IntKind.i64 (-1) a = -a - 1 := by
  have e1 : (BitVec.ofInt 64 (-1)) = BitVec.allOnes 64 := by decide
  show IntKind.i64.wrap ((BitVec.ofInt 64 (-1) ^^^ BitVec.ofInt 64 a).toNat : Int) = _
  rw [e1, BitVec.xor_comm, BitVec.xor_allOnes, BitVec.toNat_not, BitVec.toNat_ofInt]
  simp [IntKind.wrap, IntKind.bits, IntKind.signed]
  omega
def wd (p : Int) : Int := parts (zig p).toNat
theorem wd_any (n : Int) (h1 : -9223372036854775808 ≤ n) (h2 : n ≤ 9223372036854775807) (w : World) :
    Calls Try.prog 21 #[.int .i64 n] w fun e w' => e = .returned (.int .i64 (wd n)) ∧ w = w' := width_any n h1 h2 w
theorem parts_odd (x : Nat) : parts (2 * x + 1) = parts (2 * x) := by
  by_cases h : x = 0
  · subst h; decide +kernel
  · have h1 := nbits_pos (u := 2 * x + 1) (by omega)
    have h2 := nbits_pos (u := 2 * x) (by omega)
    rw [show (2 * x + 1) / 2 = x by omega] at h1
    rw [show (2 * x) / 2 = x by omega] at h2
    unfold parts; rw [h1, h2]
theorem wd_not (a : Int) : wd (-a - 1) = wd a := by
  unfold wd
  by_cases h : 0 ≤ a
  · rw [zig_pos h, zig_neg (by omega)]
    have := parts_odd a.toNat
    rw [show (-2 * (-a - 1) - 1).toNat = 2 * a.toNat + 1 by omega, this]
    congr 2; omega
  · rw [zig_pos (by omega), zig_neg (by omega)]
    have := parts_odd (-a - 1).toNat
    rw [show (-2 * a - 1).toNat = 2 * (-a - 1).toNat + 1 by omega, this]
    congr 2; omega
theorem wd_mono0 {a b : Int} (h0 : 0 ≤ a) (h : a ≤ b) : wd a ≤ wd b := by
  unfold wd
  rw [zig_pos h0, zig_pos (by omega)]
  have := parts_mono (a := (2 * a).toNat) (b := (2 * b).toNat) (by omega)
  omega
theorem wd_mono {a b : Int} (h : (0 ≤ a ∧ 0 ≤ b ∧ a ≤ b) ∨ (0 ≤ a ∧ b < 0 ∧ a ≤ -b - 1) ∨ (a < 0 ∧ 0 ≤ b ∧ -a - 1 ≤ b) ∨ (a < 0 ∧ b < 0 ∧ -a - 1 ≤ -b - 1)) : wd a ≤ wd b := by
  rcases h with ⟨h1, _, h3⟩ | ⟨h1, _, h3⟩ | ⟨_, h2, h3⟩ | ⟨_, h2, h3⟩
  · exact wd_mono0 h1 h3
  · rw [← wd_not b]; exact wd_mono0 h1 h3
  · rw [← wd_not a]; exact wd_mono0 (by omega) h3
  · rw [← wd_not b, ← wd_not a]; exact wd_mono0 (by omega) h3
theorem wd_le (a : Int) (h1 : -9223372036854775808 ≤ a) (h2 : a ≤ 9223372036854775807) : wd a ≤ 10 := by
  have := parts_le (u := (zig a).toNat) (by have := zig_le a h1 h2; omega)
  unfold wd; omega

/-! ### STEP 1: THE WALK: the Go text returns true. 'Grown w w'': the world has at most new blocks (Derived/RowKit3.lean). Part the cases AHEAD of 'go_enter' where a test parts the walk; take each callee by a contract of your own. -/
theorem walk (a0 : Int) (a1 : Int) (w0 : (Lit.int .i64 a0).wf = true) (w1 : (Lit.int .i64 a1).wf = true) (w : World) :
    Calls Try.prog 7 #[.int .i64 a0, .int .i64 a1] w fun e w' => e = .returned (.bool true) ∧ Grown w w' := by
  obtain ⟨a1l, a1h⟩ := Fits.i64 w0
  obtain ⟨a2l, a2h⟩ := Fits.i64 w1
  have e0 := not64 a0 a1l a1h
  have e1 := not64 a1 a2l a2h
  have e0' : bits BinOp.xor IntKind.i64 (if IntKind.i64.signed = true then -1 else 9223372036854775807) a0 = -a0 - 1 := e0
  have e1' : bits BinOp.xor IntKind.i64 (if IntKind.i64.signed = true then -1 else 9223372036854775807) a1 = -a1 - 1 := e1
  have f0 := not64 (-a0 - 1) (by omega) (by omega)
  have f1 := not64 (-a1 - 1) (by omega) (by omega)
  rw [show -(-a0 - 1) - 1 = a0 by omega] at f0
  rw [show -(-a1 - 1) - 1 = a1 by omega] at f1
  have g0 := wd_not a0
  have g1 := wd_not a1
  have l0 := wd_le a0 a1l a1h
  have l1 := wd_le a1 a2l a2h
  go_enter Try.func7, Try.ntmps7
  go_wp2_with fail
  refine (works_any _).mono ?_
  rintro e w' ⟨rfl, rfl⟩
  go_wp2_with fail
  all_goals (first | (have hm : wd a0 ≤ wd a1 := wd_mono (by omega)) | (have hm : wd a1 ≤ wd a0 := wd_mono (by omega)))
  all_goals (refine (wd_any _ (by omega) (by omega) _).mono ?_; rintro e w' ⟨rfl, rfl⟩)
  all_goals go_wp2_with fail
  all_goals (refine (wd_any _ (by omega) (by omega) _).mono ?_; rintro e w' ⟨rfl, rfl⟩)
  all_goals go_wp2_with fail
  all_goals (refine (wd_any _ (by omega) (by omega) _).mono ?_; rintro e w' ⟨rfl, rfl⟩)
  all_goals go_wp2_with fail
  all_goals (refine (wd_any _ (by omega) (by omega) _).mono ?_; rintro e w' ⟨rfl, rfl⟩)
  all_goals go_wp2_with fail
  all_goals (refine (wd_any _ (by omega) (by omega) _).mono ?_; rintro e w' ⟨rfl, rfl⟩)
  all_goals go_wp2_with fail
  all_goals go_ret
  all_goals exact ⟨rfl, Grown.refl _⟩

/-! ### THE ROW's STEP: WRITTEN OUT: LEAVE IT -/
set_option maxRecDepth 100000 in
theorem lifted (os : Os) (started : os.Started) (H : Type) (enc : TypeId × Value → H) :
    ReturnsInHanded {} Try.checked os 7 .any (Rows.zigNearSpec.pre6 enc Try.prog Try.f7 Rows.zigNearRow.domain false) (Rows.zigNearSpec.post enc Try.prog Try.f7 false true false false) := by
  refine returnsInHanded_of_change (C := Try.checked) own started (by kernel_rfl) Try.func7
    (ChangeSpec.witness6 (enc := enc) (C := Try.checked) false ⟨#[], #[.int .i64 0, .int .i64 0], []⟩ 8 (by kernel_rfl) (by kernel_rfl) (by kernel_rfl) (by kernel_rfl)) ?_
  intro W base args ds gs before hval0 hW hcnd _
  have hval : ∀ (j : Nat) t v, Try.f7.params[j]? = some t → args[j]? = some v → Value.okWide Try.prog W .any base t v := hval0
  have hW' := hW
  obtain ⟨p, q, hA0, hV, rfl, hfz, hnd⟩ := hW
  have hA : DataW.TrodAll enc Try.prog W 0 (fun _ => true) true Try.f7.params.toList args.toList ds p := hA0
  rw [Try.params7] at hA hval
  obtain ⟨v0, vs0, d0, ds0, p0, q0, hargs, rfl, rfl, h0, r0⟩ := trodAll_cons hA
  obtain ⟨v1, vs1, d1, ds1, p1, q1, rfl, rfl, rfl, h1, r1⟩ := trodAll_cons r0
  obtain ⟨rfl, rfl, rfl⟩ := trodAll_nil r1
  obtain rfl : args = #[v0, v1] := by cases args; simp_all
  obtain ⟨rfl, rfl⟩ := trodVars_none hV
  obtain ⟨a0, rfl, rfl, rfl, w0⟩ := open_int Try.underlying2 (hval 0 2 v0 rfl rfl) h0
  obtain ⟨a1, rfl, rfl, rfl, w1⟩ := open_int Try.underlying2 (hval 1 2 v1 rfl rfl) h1
  clear hA0 hval0
  simp only [List.append_nil] at hW'
  refine (walk a0 a1 w0 w1 W).mono fun e W' ⟨he, hg⟩ => ?_
  subst he
  exact ⟨_, rfl, post_of_same (pa := []) (pv := []) hW' (fun _ _ _ => (trodAll_cons_mk (shut_bool Try.underlying4 _) trodAll_mk0)) (fun sp _ => (trodAll_cons_mk (shut_int Try.underlying2 w0) (trodAll_cons_mk (shut_int Try.underlying2 w1) trodAll_mk0))) (fun _ _ => rfl) rfl
    (hg.frame _) hg.2.1 (ok_one (by kernel_rfl) rfl (okWide_bool_mk Try.underlying4 _))⟩

theorem over : Rows.zigNearRow.holds Try.pinned (OpenSpec.ofChange Rows.zigNearSpec) :=
  OpenClaim.holds_of_wide 7 Try.f7 rfl rfl rfl rfl rfl rfl rfl ⟨rfl, rfl, rfl, rfl, rfl⟩ rfl rfl rfl rfl rfl (by kernel_rfl) Try.func7 (by kernel_rfl)
    (of_decide_eq_true (by kernel_rfl)) (by unfold Func.isWrapper; first | (rw [if_pos (by decide +kernel)]; kernel_rfl) | (rw [if_neg (by decide +kernel)]; exact ⟨rfl, rfl⟩))
    (fun os started H enc _ => lifted os started H enc)

/-- ████ THE STATEMENT ████ -/
theorem proved : Rows.ZigNearSaid :=
  over
#print axioms proved
end Go.Proofs.Ytaeecppabbjogaa.zigNear
