/- The layer wire: readers, the program's. -/
import Derived.Test.YtodgnlhakafhoaaUtfE
import Derived.Test.YtodgnlhakafhoaaVarW
import Derived.Laws.ResultCell
namespace Go.Proofs.Ytodgnlhakafhoaa.Wr
open Go.ChangeShapes Go.WideShapes Go.ChangeAt Go.RowKit
open Num Mem

theorem _root_.Go.Proofs.Ytodgnlhakafhoaa.Mem.Rd.setAt {w : World} {B n : Nat} {A : Option Addr} {xs : List UInt8} (h : Rd w B A n xs) {g : Nat} (hg : B ≤ g) (i : Nat) (u : Value) : Rd (w.setCell ⟨g, i, none⟩ u) B A n xs :=
  h.below' (B' := g) ((Below.refl g w).setAt i u) hg
section
variable {ops : Array Oper} {rest : List Oper} {o : Oper} {a : Act} {Q : Exit → Act → World → Prop} {w : World}
/-- 's[p:q]', the address given -/
theorem wpl_cut2e {dst : Option Tmp} {x y z : Operand} {ty : TypeId} {pos : String} {af : Array Edge} {gd : Option (Nat × Bool)}
    (hw : Region.wanted ⟨dst, .slice 22 x (some y) (some z) none, ty, pos, af, gd⟩ (yielded ops a.tmps) = true)
    {n c p q : Nat} {k k' : IntKind} {A A1 : Option Addr} (hx : a.eval x = .slice A n c) (hy : a.eval y = .int k (p : Int)) (hz : a.eval z = .int k' (q : Int)) (hp : p ≤ q) (hq : q ≤ c) (hA : A1 = if c = p then A else A.map (·.add p))
    (h : wpList Try.prog ops Q rest (a.put dst (.slice A1 (q - p) (c - p))) w) :
    wpList Try.prog ops Q (⟨dst, .slice 22 x (some y) (some z) none, ty, pos, af, gd⟩ :: rest) a w := by
  subst hA
  refine BigFrame.wpList_want hw fun K hK => ?_
  unfold Oper.wp execOp
  simp only [Sem.run_bind, Sem.run_pure, Result.andThen_ok, hx, hy, hz, Option.map_some, Option.map_none, run_cut2b A n c p q hp hq k k']
  exact hK _ _ h
end
/-- a reader lies in the first cells of a block -/
def RdAt (w : World) (g : Nat) (A : Option Addr) (n c : Nat) (a e : Int) : Prop :=
  w.cell? ⟨g, 0, none⟩ = some (.slice A n c) ∧ w.cell? ⟨g, 1, none⟩ = some (.int .i64 a) ∧ w.cell? ⟨g, 2, none⟩ = some (.int .i64 e)
def rdv (A : Option Addr) (n c : Nat) (a e : Int) : Value := .agg #[.slice A n c, .int .i64 a, .int .i64 e]

/-- .. and may be written -/
def Bxr (w : World) (g : Nat) (A : Option Addr) (n c : Nat) (a e : Int) : Prop :=
  RdAt w g A n c a e ∧ w.frozen? ⟨g, 0, none⟩ = false ∧ w.frozen? ⟨g, 1, none⟩ = false ∧ w.frozen? ⟨g, 2, none⟩ = false
theorem Bxr.below {w w' : World} {g B : Nat} {A : Option Addr} {n c : Nat} {a e : Int} (h : Bxr w g A n c a e) (hb : Below B w w') (hg : g < B) : Bxr w' g A n c a e :=
  ⟨⟨(hb.cell hg).trans h.1.1, (hb.cell hg).trans h.1.2.1, (hb.cell hg).trans h.1.2.2⟩, (hb.frozen hg).trans h.2.1, (hb.frozen hg).trans h.2.2.1, (hb.frozen hg).trans h.2.2.2⟩
theorem load_rd (w : World) (g : Nat) (A : Option Addr) (n c : Nat) (a e : Int) (h : RdAt w g A n c a e) : (loadVar 60 ⟨g, 0, none⟩).run Try.prog w = .ok (rdv A n c a e) w := by
  obtain ⟨h0, h1, h2⟩ := h
  unfold rdv
  go_simp
theorem results_c {P : Program} {fn : Func} {p : Tmp} {ty : TypeId} (h : fn.results = #[.cell p ty]) (tmps : Array Value) (w : World) :
    (results fn tmps).run P w = ((asAddr (tmps.getD p undef)).run P w).andThen fun a w₁ => (loadVar ty a).run P w₁ := by
  simp only [results, h]
  simp [Sem.run_bind, Result.andThen]
theorem results_tc {P : Program} {fn : Func} {p u : Tmp} {ty : TypeId} (h : fn.results = #[.tmp u, .cell p ty]) (tmps : Array Value) (w : World) :
    (results fn tmps).run P w = ((asAddr (tmps.getD p undef)).run P w).andThen fun a w₁ => ((loadVar ty a).run P w₁).andThen fun v w₂ => .ok (.tuple #[tmps.getD u undef, v]) w₂ := by
  simp only [results, h]
  simp [Sem.run_bind, Result.andThen]
theorem ret_c {fn : Func} {p : Tmp} (h : fn.results = #[.cell p 60]) {tmps : Array Value} {w : World} {g : Nat} {A : Option Addr} {n c : Nat} {a e : Int} (hp : tmps.getD p undef = .pointer (some ⟨g, 0, none⟩)) (hr : RdAt w g A n c a e) :
    (results fn tmps).run Try.prog w = .ok (rdv A n c a e) w := by
  rw [results_c h, hp]
  simp only [asAddr, Sem.run_pure, Result.andThen_ok]
  exact load_rd w g A n c a e hr
theorem ret_tc {fn : Func} {p u : Tmp} (h : fn.results = #[.tmp u, .cell p 60]) {tmps : Array Value} {w : World} {g : Nat} {A : Option Addr} {n c : Nat} {a e : Int} (hp : tmps.getD p undef = .pointer (some ⟨g, 0, none⟩)) (hr : RdAt w g A n c a e) :
    (results fn tmps).run Try.prog w = .ok (.tuple #[tmps.getD u undef, rdv A n c a e]) w := by
  rw [results_tc h, hp]
  simp only [asAddr, Sem.run_pure, Result.andThen_ok]
  rw [load_rd w g A n c a e hr]; simp only [Result.andThen_ok]
theorem ret_ct {fn : Func} {p u : Tmp} (h : fn.results = #[.cell p 60, .tmp u]) {tmps : Array Value} {w : World} {g : Nat} {A : Option Addr} {n c : Nat} {a e : Int} (hp : tmps.getD p undef = .pointer (some ⟨g, 0, none⟩)) (hr : RdAt w g A n c a e) :
    (results fn tmps).run Try.prog w = .ok (.tuple #[rdv A n c a e, tmps.getD u undef]) w := by
  rw [results_cell_tmp h, hp]
  simp only [asAddr, Sem.run_pure, Result.andThen_ok]
  rw [load_rd w g A n c a e hr]; simp only [Result.andThen_ok]

set_option maxRecDepth 100000 in
theorem fail_any (A : Option Addr) (n c : Nat) (a e0 e1 : Int) (w : World) :
    Calls Try.prog 77 #[.agg #[.slice A n c, .int .i64 a, .int .i64 e0], .int .i64 e1] w fun e w' => e = .returned (.agg #[.slice A n c, .int .i64 a, .int .i64 e1]) ∧ (w.alloc (.cells #[.slice A n c, .int .i64 a, .int .i64 e1] 60)).alloc (.cells #[.slice A n c, .int .i64 a, .int .i64 e1] 60) = w' := by
  go_enter Try.func77, Try.ntmps77
  go_wp2
  refine bodyPost_ret (ret_c (A := A) (n := n) (c := c) (a := a) (e := e1) rfl rfl ⟨by simp, by simp, by simp⟩) rfl ⟨rfl, rfl⟩

/-- why a reader refuses, once it is asked -/
def stE (n : Nat) (a e : Int) : Int := if e = 0 ∧ (a < 0 ∨ (n : Int) < a) then 2 else e
theorem stE_no {n : Nat} {a e : Int} (h : e ≠ 0) : stE n a e = e := by unfold stE; rw [if_neg (by omega)]
theorem stE_out {n : Nat} {a : Int} (h : a < 0 ∨ (n : Int) < a) : stE n a 0 = 2 := by unfold stE; rw [if_pos ⟨rfl, h⟩]
theorem stE_in {n : Nat} {a : Int} (h : ¬ (a < 0 ∨ (n : Int) < a)) : stE n a 0 = 0 := by unfold stE; rw [if_neg (by omega)]

set_option maxRecDepth 100000 in
theorem stands_any (A : Option Addr) (n c : Nat) (a e : Int) (w : World) :
    Calls Try.prog 74 #[.agg #[.slice A n c, .int .i64 a, .int .i64 e]] w fun e' w' => e' = .returned (.tuple #[.agg #[.slice A n c, .int .i64 a, .int .i64 (stE n a e)], .bool (decide (stE n a e = 0))]) ∧ ((w.alloc (.cells #[.slice A n c, .int .i64 a, .int .i64 (stE n a e)] 60)).alloc (.cells #[.slice A n c, .int .i64 a, .int .i64 (stE n a e)] 60)).drew = w' := by
  by_cases h0 : e = 0
  · subst h0
    by_cases h1 : a < 0 ∨ (n : Int) < a
    · rw [stE_out h1]
      rcases (show a < 0 ∨ (¬ a < 0 ∧ (n : Int) < a) by omega) with h | ⟨h, h'⟩
      · clear h1
        go_enter Try.func74, Try.ntmps74
        go_wp2
        go_region
        all_goals go_wp2
        all_goals refine bodyPost_ret (ret_ct (A := A) (n := n) (c := c) (a := a) (e := 2) rfl rfl ⟨by simp, by simp, by simp⟩) rfl ⟨by simp [rdv], rfl⟩
      · clear h1
        go_enter Try.func74, Try.ntmps74
        go_wp2
        go_region
        all_goals go_wp2
        all_goals refine bodyPost_ret (ret_ct (A := A) (n := n) (c := c) (a := a) (e := 2) rfl rfl ⟨by simp, by simp, by simp⟩) rfl ⟨by simp [rdv], rfl⟩
    · rw [stE_in h1]
      have g1 : ¬ a < 0 := by omega
      have g2 : ¬ (n : Int) < a := by omega
      clear h1
      go_enter Try.func74, Try.ntmps74
      go_wp2
      go_region
      all_goals go_wp2
      all_goals refine bodyPost_ret (ret_ct (A := A) (n := n) (c := c) (a := a) (e := 0) rfl rfl ⟨by simp, by simp, by simp⟩) rfl ⟨by simp [rdv], rfl⟩
  · rw [stE_no h0]
    have h2 : (e == 0) = false := by simp [h0]
    go_enter Try.func74, Try.ntmps74
    go_wp2
    go_region
    all_goals go_wp2
    all_goals refine bodyPost_ret (ret_ct (A := A) (n := n) (c := c) (a := a) (e := e) rfl rfl ⟨by simp, by simp, by simp⟩) rfl ⟨by simp [rdv, h0], rfl⟩

set_option maxRecDepth 100000 in
theorem next_ok (A : Option Addr) (n c B q m : Nat) (k : Int) (xs : List UInt8) (w : World) (hr : Rd w B A n xs) (hB : B ≤ w.heap.size) (hnc : n ≤ c) (hn : n ≤ 1000000000) (hm : (m : Int) = max k 0) (hq : q + m ≤ n) :
    Calls Try.prog 76 #[.agg #[.slice A n c, .int .i64 q, .int .i64 0], .int .i64 k] w fun e' w' => ∃ A' c', e' = .returned (.tuple #[.slice A' m c', .agg #[.slice A n c, .int .i64 ((q + m : Nat) : Int), .int .i64 0]]) ∧ m ≤ c' ∧ Rd w B A' m ((xs.drop q).take m) ∧ Below w.heap.size w w' := by
  have hs := stE_in (n := n) (a := (q : Int)) (by omega)
  have HS := Lib.hid hs
  have hmax : (if k < 0 then 0 else k) = (m : Int) := by rw [hm]; split <;> omega
  have hlt : ¬ ((n : Int) - q < m) := by omega
  have hqm : ((q + m : Nat) : Int) = (q : Int) + m := by simp
  have HQM := Lib.hid hqm
  clear hqm hs hm
  obtain ⟨A1, hA1⟩ : ∃ A1, A1 = if c = q then A else A.map (·.add q) := ⟨_, rfl⟩
  have HA1 := Lib.hid hA1
  clear hA1
  go_enter Try.func76, Try.ntmps76
  go_wp2_with fail
  refine (stands_any A n c q 0 _).mono ?_
  rintro e w2 ⟨rfl, rfl⟩
  rw [HS.out]
  go_wp2_with (refine wpl_cut2e (q := q + m) (k' := .i64) rfl rfl rfl (by exact congrArg (Value.int IntKind.i64) HQM.out.symm) (by omega) (by omega) HA1.out ?_)
  go_region
  all_goals go_wp2
  all_goals refine bodyPost_ret (ret_tc (A := A) (n := n) (c := c) (a := ((q + m : Nat) : Int)) (e := 0) rfl rfl ⟨by go_simp, by go_simp, by go_simp⟩) rfl ⟨A1, c - q, by simp [rdv], by omega, ?_, ?_⟩
  all_goals first
    | (repeat' (first | exact Below.refl _ _ | refine Below.drew ?_ | refine Below.drewN ?_ _ | refine Below.alloc ?_ (by simp <;> omega) _)); done
    | (rw [HA1.out, show (xs.drop q).take m = (xs.take (q + m)).drop q by rw [List.drop_take]; congr 1; omega]; have h9 := ((hr.upto hq).cut (k := q) (cap := c) (by omega) (by omega)); rw [Nat.add_sub_cancel_left] at h9; refine h9.below' (B' := w.heap.size) ?_ hB; (repeat' (first | exact Below.refl _ _ | refine Below.drew ?_ | refine Below.drewN ?_ _ | refine Below.alloc ?_ (by simp <;> omega) _)))
end Go.Proofs.Ytodgnlhakafhoaa.Wr
