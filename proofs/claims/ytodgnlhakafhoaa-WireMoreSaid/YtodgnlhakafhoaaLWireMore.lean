/- What is proved: for every input the Go function avocetlaw04.WireMore returns true and leaves its arguments as they were. Conditions: none beyond the given statement's own. -/
import Derived.Test.YtodgnlhakafhoaaRows
import Derived.WalkKit
import Derived.ProofKit
import Derived.OpenShut
import Derived.Test.YtodgnlhakafhoaaWirM
import Derived.Test.YtodgnlhakafhoaaWirW
import Derived.Test.YtodgnlhakafhoaaCan
import Derived.Lib.SmallJoins
import Derived.Deep.CutBlock
import Derived.ShutString
import Derived.ChangeOld
import Derived.Below
namespace Go.Proofs.Ytodgnlhakafhoaa.wireMore
open Go.ChangeShapes Go.WideShapes Go.ChangeAt Go.RowKit
open Num Mem Wr
open Go.ChangeMaps (open_string shut_string)
set_option linter.unusedVariables false

theorem own : ownKnob Try.prog.godebug = none := by kernel_rfl
theorem laidOut : laidOutB Try.prog = true := by kernel_rfl

/-- WHAT THE WALK IS TOLD OF A SLICE OF INTEGERS THAT CAME IN: it is nil; or it leads to a row of 'cap' cells, the numbers 'zs' (the first 'len' are its elements, the rest its spare room), each fitting its kind. -/
def IsRow (k : IntKind) (w : World) (a : Option Addr) (len cap : Nat) (zs : List Int) : Prop :=
  (a = none ∧ len = 0 ∧ cap = 0 ∧ zs = []) ∨
  ∃ x, a = some x ∧ len ≤ cap ∧ cap ≤ maxLen ∧ zs.length = cap ∧ (∀ i, i < zs.length → w.cell? (x.add i) = some (.int k (zs.getD i 0))) ∧ ∀ n ∈ zs, (Lit.int k n).wf = true

/-! ### STEP 1: THE WALK: the Go text returns true, AND WRITES NOTHING THAT WAS THERE: 'Below w.heap.size w w'' (Derived/Below.lean: '.refl', '.alloc', '.drew', '.setCell' at a new block, '.trans'). Open each 'IsRow' by 'rcases' AHEAD of 'go_enter'; part every test ahead of the walk. -/
set_option maxRecDepth 100000 in
set_option maxHeartbeats 8000000 in
theorem walk (a0 : Option Addr) (len0 cap0 : Nat) (z0 : List Int) (a1 : Option Addr) (len1 cap1 : Nat) (z1 : List Int) (a2 : Int) (a3 : Int) (a4 : Int) (w : World) (w0 : IsRow .u8 w a0 len0 cap0 z0) (w1 : IsRow .u8 w a1 len1 cap1 z1) (w2 : (Lit.int .i64 a2).wf = true) (w3 : (Lit.int .i64 a3).wf = true) (w4 : (Lit.int .i64 a4).wf = true) :
    Calls Try.prog 13 #[.slice a0 len0 cap0, .slice a1 len1 cap1, .int .i64 a2, .agg #[.int .i64 a3, .int .i64 a4]] w fun e w' => e = .returned (.bool true) ∧ Below w.heap.size w w' := by
  obtain ⟨xs, hr, hlc, hlm⟩ := rd_row w0
  obtain ⟨ts, htr, htlc, htlm⟩ := rd_row w1
  obtain ⟨a2l, a2h⟩ := Fits.i64 w2
  unfold maxLen at hlm htlm
  have hB : w.heap.size ≤ w.heap.size := Nat.le_refl _
  clear w0 w1 w2 w3 w4
  by_cases hbad : 2000 < len0 ∨ 2000 < len1 ∨ a2 < 0 ∨ (len0 : Int) < a2
  · rcases (show (2000 < len0) ∨ (¬ 2000 < len0 ∧ 2000 < len1) ∨ (¬ 2000 < len0 ∧ ¬ 2000 < len1 ∧ a2 < 0) ∨ (¬ 2000 < len0 ∧ ¬ 2000 < len1 ∧ ¬ a2 < 0 ∧ (len0 : Int) < a2) by omega) with h | ⟨h, h'⟩ | ⟨h, h', h''⟩ | ⟨h, h', h'', h3⟩
    all_goals
      clear hbad
      go_enter Try.func13, Try.ntmps13
      go_wp2_with fail
      refine (works_any _).mono ?_
      rintro e w3 ⟨rfl, hb3⟩
      go_wp2_with fail
      go_ret
      exact ⟨rfl, ((Below.refl _ _).al hB _).thn hB hb3⟩
  · have hl := hr.len
    have htl := htr.len
    obtain ⟨p, rfl⟩ := Int.eq_ofNat_of_zero_le (show 0 ≤ a2 by omega)
    have hp : p ≤ len0 := by omega
    have g1 : ¬ (2000 : Int) < (len0 : Int) := by omega
    have g2 : ¬ (2000 : Int) < (len1 : Int) := by omega
    have g3 : ¬ (p : Int) < 0 := by omega
    have g4 : ¬ (len0 : Int) < (p : Int) := by omega
    have hm := fun h => rs_more (k := a3) (s := a4) (n' := len0 + len1) hl (by rw [htl]) hp (ts := ts) h
    have hs := fun h => rs_short (k := a3) (s := a4) (n := len0) (xs := xs) (a := (p : Int)) h
    have hd1 := fun w1 (hw : Below w.heap.size w w1) => reads_any a0 len0 cap0 w.heap.size p a3 a4 xs w1 (hr.below hw) hw.size hlc (by omega)
    have hd2 := fun A c w1 (h : Rd w1 w1.heap.size A (len0 + len1) (xs ++ ts)) (hc : len0 + len1 ≤ c) => reads_any A (len0 + len1) c w1.heap.size p a3 a4 (xs ++ ts) w1 h (Nat.le_refl _) hc (by omega)
    generalize rsT a3 a4 len0 xs p = T1 at hm hd1
    generalize rsE a3 a4 len0 xs p = E1 at hm hs hd1
    generalize rsN a3 len0 xs p = N1 at hm hs hd1
    generalize rsU a3 a4 len0 xs p = U1 at hm hs hd1
    generalize rsY a3 a4 len0 xs p = Y1 at hm hs hd1
    generalize rsT a3 a4 (len0 + len1) (xs ++ ts) p = T2 at hm hd2
    generalize rsE a3 a4 (len0 + len1) (xs ++ ts) p = E2 at hm hd2
    generalize rsN a3 (len0 + len1) (xs ++ ts) p = N2 at hm hd2
    generalize rsU a3 a4 (len0 + len1) (xs ++ ts) p = U2 at hm hd2
    generalize rsY a3 a4 (len0 + len1) (xs ++ ts) p = Y2 at hm hd2
    have HD1 := Lib.hid hd1
    have HD2 := Lib.hid hd2
    have HM := Lib.hid hm
    have HSH := Lib.hid hs
    clear hm hs hd1 hd2 hbad a2l a2h
    go_enter Try.func13, Try.ntmps13
    go_wp2_with fail
    refine (works_any _).mono ?_
    rintro e w3 ⟨rfl, hb3⟩
    have x0 : RdAskAt (w.alloc (.cells #[.int .i64 a3, .int .i64 a4] 67)) w.heap.size a3 a4 := ⟨by simp, by simp⟩
    have x1 := x0.below hb3 (by simp)
    have hbz3 : Below w.heap.size w w3 := ((Below.refl _ _).al hB _).thn hB hb3
    have hsz3 := hb3.size
    simp only [World.size_alloc] at hsz3
    obtain ⟨p0, p1⟩ := x1
    clear hb3 x0
    go_upto_region 6 with (at_builtin; first | (refine wpl_app rfl rfl (Own.lit w3 w3.heap.size [] (Nat.le_refl _) (by simp)) rfl ((hr.below hbz3).alloc hbz3.size _) (by omega) (by simp) ?_; intro A4 c4 w4 ho4 hb4; simp only [Nat.zero_add, List.nil_append] at ho4; have hb34 := ((Below.refl w3.heap.size w3).al (Nat.le_refl _) (.cells #[] 5)).trans hb4) | (refine wpl_app rfl rfl ho4 rfl ((htr.below hbz3).below' hb34 hbz3.size) (by omega) hb34.size ?_; intro A6 c6 w6 ho6 hb6; have hb36 := hb34.trans hb6))
    have z1 : RdAskAt w6 w.heap.size a3 a4 := RdAskAt.below ⟨p0, p1⟩ hb36 (by omega)
    have hbz6 : Below w.heap.size w w6 := hbz3.thn hB hb36
    have hsz6 := hb36.size
    have hs60 : w.heap.size < w6.heap.size := by omega
    have hs61 : w.heap.size < w6.heap.size + 1 := by omega
    have hrd6 := ho6.rd
    have hcap6 := ho6.cap
    obtain ⟨q0, q1⟩ := z1
    clear p0 p1 ho4 hb4 ho6 hb6 hb34 hb36
    go_wp2_with fail
    refine (HD1.out _ ((hbz6.al hB _).al hB _)).mono ?_
    rintro e w7 ⟨B1, m1, d1, rfl, hm1, hy1, hb7⟩
    have y0 : RdAskAt ((w6.alloc (.cells #[.slice a0 len0 cap0, .int .i64 p, .int .i64 0] 60)).alloc (.cells #[.slice A6 (len0 + len1) c6, .int .i64 p, .int .i64 0] 60)) w.heap.size a3 a4 := ⟨by go_simp, by go_simp⟩
    have y1 := y0.below hb7 (by simp; omega)
    have y2 : Bxr w7 (w6.heap.size + 1) A6 (len0 + len1) c6 p 0 := Bxr.below ⟨⟨by go_simp, by go_simp, by go_simp⟩, by go_simp, by go_simp, by go_simp⟩ hb7 (by simp)
    have hrd7 := ((hrd6.alloc (Nat.le_refl _) (.cells #[.slice a0 len0 cap0, .int .i64 p, .int .i64 0] 60)).alloc (by simp) (.cells #[.slice A6 (len0 + len1) c6, .int .i64 p, .int .i64 0] 60)).below' hb7 (by simp; omega)
    have hbz7 : Below w.heap.size w w7 := ((hbz6.al hB _).al hB _).thn hB hb7
    have hsz7 := hb7.size
    simp only [World.size_alloc] at hsz7
    have hs70 : w.heap.size < w7.heap.size := by omega
    have hs71 : w6.heap.size + 1 < w7.heap.size := by omega
    obtain ⟨r0, r1⟩ := y1
    obtain ⟨⟨t0, t1, t2⟩, _, _, _⟩ := y2
    clear y0 q0 q1 hb7 hrd6
    go_wp2_with fail
    refine (HD2.out A6 c6 _ ((hrd7.alloc (by omega) _).more (by simp; omega)) hcap6).mono ?_
    rintro e w8 ⟨B2, m2, d2, rfl, hm2, hy2, hb8⟩
    have u1 : Bxr w8 w7.heap.size a0 len0 cap0 T1 E1 := Bxr.below ⟨⟨by simp, by simp, by simp⟩, by simp, by simp, by simp⟩ hb8 (by simp)
    have hbz8 : Below w.heap.size w w8 := (hbz7.al hB _).thn hB hb8
    have hy3 := (hy1.alloc (Nat.le_refl _) (.cells #[.slice a0 len0 cap0, .int .i64 T1, .int .i64 E1] 60)).below' hb8 (by simp)
    have hsz8 := hb8.size
    simp only [World.size_alloc] at hsz8
    have hs80 : w7.heap.size < w8.heap.size := by omega
    obtain ⟨⟨v0, v1, v2⟩, _, _, _⟩ := u1
    clear r0 r1 t0 t1 t2 hb8 hrd7
    by_cases hE : E1 = 10
    · obtain ⟨rfl, rfl, rfl⟩ := HSH.out hE
      obtain rfl : m1 = 0 := by have := hy1.len; simpa using this.symm
      have hE1 : (E1 == 10) = true := by simp [hE]
      clear hy1 hy2 hy3 hE
      go_wp2_with fail
      go_ret
      exact ⟨rfl, hbz8.al hB _⟩
    · obtain ⟨rfl, rfl, rfl, rfl, rfl⟩ := HM.out hE
      have hE1 : (E2 == 10) = false := by simp [hE]
      clear hE hy1
      go_wp2_with (first | (with_reducible refine wpl_str rfl rfl (hy3.alloc (by omega) _) ?_) | (with_reducible refine wpl_str rfl rfl (hy2.alloc (Nat.le_refl _) _) ?_))
      go_ret
      exact ⟨rfl, hbz8.al hB _⟩

/-! ### THE ROW's STEP: WRITTEN OUT: LEAVE IT -/
set_option maxRecDepth 100000 in
theorem lifted (os : Os) (started : os.Started) (H : Type) (enc : TypeId × Value → H) :
    ReturnsInHanded {} Try.checked os 13 .any (Rows.wireMoreSpec.pre6 enc Try.prog Try.f13 Rows.wireMoreRow.domain false) (Rows.wireMoreSpec.post enc Try.prog Try.f13 false true false false) := by
  refine returnsInHanded_of_change (C := Try.checked) own started (by kernel_rfl) Try.func13
    (ChangeSpec.witness6 (enc := enc) (C := Try.checked) false ⟨#[], #[.slice none 0 0, .slice none 0 0, .int .i64 0, .agg #[.int .i64 0, .int .i64 0]], []⟩ 8 (by kernel_rfl) (by kernel_rfl) (by kernel_rfl) (by kernel_rfl)) ?_
  intro W base args ds gs before hval0 hW hcnd _
  have hval : ∀ (j : Nat) t v, Try.f13.params[j]? = some t → args[j]? = some v → Value.okWide Try.prog W .any base t v := hval0
  have hW' := hW
  obtain ⟨p, q, hA0, hV, rfl, hfz, hnd⟩ := hW
  have hA : DataW.TrodAll enc Try.prog W 0 (fun _ => true) true Try.f13.params.toList args.toList ds p := hA0
  rw [Try.params13] at hA hval
  obtain ⟨v0, vs0, d0, ds0, p0, q0, hargs, rfl, rfl, h0, r0⟩ := trodAll_cons hA
  obtain ⟨v1, vs1, d1, ds1, p1, q1, rfl, rfl, rfl, h1, r1⟩ := trodAll_cons r0
  obtain ⟨v2, vs2, d2, ds2, p2, q2, rfl, rfl, rfl, h2, r2⟩ := trodAll_cons r1
  obtain ⟨v3, vs3, d3, ds3, p3, q3, rfl, rfl, rfl, h3, r3⟩ := trodAll_cons r2
  obtain ⟨rfl, rfl, rfl⟩ := trodAll_nil r3
  obtain rfl : args = #[v0, v1, v2, v3] := by cases args; simp_all
  obtain ⟨rfl, rfl⟩ := trodVars_none hV
  obtain ⟨a0, len0, cap0, rfl⟩ := okWide_slice Try.underlying22 (hval 0 22 v0 rfl rfl)
  have k0 := h0
  have lt0 : ∀ x ∈ p0, x.block < W.heap.size := by obtain ⟨m, hm⟩ := k0; exact DataW.trod_lt m _ _ _ hm
  obtain ⟨z0, w0⟩ : ∃ zs, IsRow .u8 W a0 len0 cap0 zs := by
    obtain ⟨fuel, hf⟩ := h0
    rcases open_ints Try.underlying22 Try.underlying5 (by kernel_rfl) hf with ⟨hcs, _⟩ | ⟨x, l, c, zs, hcs, _, hl, hm, hz, _, hcell, hwz⟩
    · simp [Value.cells] at hcs
      obtain ⟨rfl, rfl, rfl⟩ := hcs
      exact ⟨[], .inl ⟨rfl, rfl, rfl, rfl⟩⟩
    · simp [Value.cells] at hcs
      obtain ⟨rfl, rfl, rfl⟩ := hcs
      exact ⟨zs, .inr ⟨_, rfl, hl, hm, by simpa using hz, hcell, hwz⟩⟩
  obtain ⟨a1, len1, cap1, rfl⟩ := okWide_slice Try.underlying22 (hval 1 22 v1 rfl rfl)
  have k1 := h1
  have lt1 : ∀ x ∈ p1, x.block < W.heap.size := by obtain ⟨m, hm⟩ := k1; exact DataW.trod_lt m _ _ _ hm
  obtain ⟨z1, w1⟩ : ∃ zs, IsRow .u8 W a1 len1 cap1 zs := by
    obtain ⟨fuel, hf⟩ := h1
    rcases open_ints Try.underlying22 Try.underlying5 (by kernel_rfl) hf with ⟨hcs, _⟩ | ⟨x, l, c, zs, hcs, _, hl, hm, hz, _, hcell, hwz⟩
    · simp [Value.cells] at hcs
      obtain ⟨rfl, rfl, rfl⟩ := hcs
      exact ⟨[], .inl ⟨rfl, rfl, rfl, rfl⟩⟩
    · simp [Value.cells] at hcs
      obtain ⟨rfl, rfl, rfl⟩ := hcs
      exact ⟨zs, .inr ⟨_, rfl, hl, hm, by simpa using hz, hcell, hwz⟩⟩
  obtain ⟨a2, rfl, rfl, rfl, w2⟩ := open_int Try.underlying3 (hval 2 3 v2 rfl rfl) h2
  have k3 := h3
  have lt3 : ∀ x ∈ p3, x.block < W.heap.size := by obtain ⟨m, hm⟩ := k3; exact DataW.trod_lt m _ _ _ hm
  obtain ⟨c0, c1, y0, y1, m, rfl, _, _, hy0, hy1⟩ := Joins.open_agg2 Try.underlying67 (by kernel_rfl) (by kernel_rfl) (hval 3 67 v3 rfl rfl) h3
  obtain ⟨a3, e3, _, w3⟩ := DataW.trod_int Try.underlying3 hy0
  obtain ⟨a4, e4, _, w4⟩ := DataW.trod_int Try.underlying3 hy1
  simp only [List.cons.injEq, and_true] at e3 e4
  subst e3 e4
  clear hA0 hval0
  refine (walk a0 len0 cap0 z0 a1 len1 cap1 z1 a2 a3 a4 W w0 w1 w2 w3 w4).mono fun e W' ⟨he, bel⟩ => ?_
  subst he
  exact ⟨_, rfl, _, _, _, [], _, [], hW', trodAll_mk1 (shut_bool Try.underlying4 _), (trodAll_cons_mk (Below.trod laidOut (by kernel_rfl) (of_decide_eq_true (by kernel_rfl)) k0 bel lt0) (trodAll_cons_mk (Below.trod laidOut (by kernel_rfl) (of_decide_eq_true (by kernel_rfl)) k1 bel lt1) (trodAll_cons_mk (shut_int Try.underlying3 w2) (trodAll_cons_mk (Below.trod laidOut (by kernel_rfl) (of_decide_eq_true (by kernel_rfl)) k3 bel lt3) trodAll_mk0)))), rfl, bel.frame _, fun h => by cases h⟩

theorem over : Rows.wireMoreRow.holds Try.pinned (OpenSpec.ofChange Rows.wireMoreSpec) :=
  OpenClaim.holds_of_wide 13 Try.f13 rfl rfl rfl rfl rfl rfl rfl ⟨rfl, rfl, rfl, rfl, rfl⟩ rfl rfl rfl rfl rfl (by kernel_rfl) Try.func13 (by kernel_rfl)
    (of_decide_eq_true (by kernel_rfl)) (by unfold Func.isWrapper; first | (rw [if_pos (by decide +kernel)]; kernel_rfl) | (rw [if_neg (by decide +kernel)]; exact ⟨rfl, rfl⟩))
    (fun os started H enc _ => lifted os started H enc)

/-- ████ THE STATEMENT ████ -/
theorem proved : Rows.WireMoreSaid := over
#print axioms proved
end Go.Proofs.Ytodgnlhakafhoaa.wireMore
