/- Steps of a region that draws its order, on slices of bytes. -/
import Derived.Test.YtodgnlhakafhoaaMem
import Derived.Test.YtodgnlhakafhoaaCan
namespace Go.Proofs.Ytodgnlhakafhoaa.Can
open Go.RowKit
open Mem
section
variable {ops : Array Oper} {Q : Exit → Act → World → Prop} {mk : List Nat} {i : Nat} {σ : List Nat} {T : Nat} {a : Act} {w : World}
  {dst : Option Tmp} {x y z : Operand} {ty : TypeId} {pos : String} {af : Array Edge} {gd : Option (Nat × Bool)}
/-- 'string(b)' -/
theorem can_str (hm : mk.contains i = false) (hi : ops[i]? = some ⟨dst, .convert 22 9 x, ty, pos, af, gd⟩) (hw : Region.wanted ⟨dst, .convert 22 9 x, ty, pos, af, gd⟩ (yielded ops a.tmps) = true)
    {n c B : Nat} {A : Option Addr} {xs : List UInt8} (hx : a.eval x = .slice A n c) (hr : Rd w B A n xs) (hT : T ≤ B)
    (h : Walk Try.prog ops Q mk σ B (a.put dst (.string ⟨xs.toArray⟩)) w) : Walk Try.prog ops Q mk (i :: σ) T a w :=
  can_read hm hi hw B hT _ (fun _ hb => exec_str hx (hr.below hb)) h
/-- 's[p:]' -/
theorem can_cut (hm : mk.contains i = false) (hi : ops[i]? = some ⟨dst, .slice 22 x (some y) none none, ty, pos, af, gd⟩) (hw : Region.wanted ⟨dst, .slice 22 x (some y) none none, ty, pos, af, gd⟩ (yielded ops a.tmps) = true)
    {n c B p : Nat} {k : IntKind} {A : Option Addr} {xs : List UInt8} (hx : a.eval x = .slice A n c) (hy : a.eval y = .int k (p : Int)) (hr : Rd w B A n xs) (hp : p ≤ n) (hnc : n ≤ c)
    (h : ∀ A1, Rd w B A1 (n - p) (xs.drop p) → Walk Try.prog ops Q mk σ T (a.put dst (.slice A1 (n - p) (c - p))) w) : Walk Try.prog ops Q mk (i :: σ) T a w := by
  refine can_pure hm hi hw (v := .slice (if c = p then A else A.map (·.add p)) (n - p) (c - p)) (fun w' => ?_) (h _ (hr.cut hp hnc))
  unfold execOp
  simp only [Sem.run_bind, Sem.run_pure, Result.andThen_ok, hx, hy, Option.map_some, Option.map_none, run_cutb A n c p hp k]
/-- 's[p:q]' -/
theorem can_cut2 (hm : mk.contains i = false) (hi : ops[i]? = some ⟨dst, .slice 22 x (some y) (some z) none, ty, pos, af, gd⟩) (hw : Region.wanted ⟨dst, .slice 22 x (some y) (some z) none, ty, pos, af, gd⟩ (yielded ops a.tmps) = true)
    {n c B p q : Nat} {k k' : IntKind} {A : Option Addr} {xs : List UInt8} (hx : a.eval x = .slice A n c) (hy : a.eval y = .int k (p : Int)) (hz : a.eval z = .int k' (q : Int)) (hr : Rd w B A n xs) (hp : p ≤ q) (hq : q ≤ n) (hnc : n ≤ c)
    (h : ∀ A1, Rd w B A1 (q - p) ((xs.take q).drop p) → Walk Try.prog ops Q mk σ T (a.put dst (.slice A1 (q - p) (c - p))) w) : Walk Try.prog ops Q mk (i :: σ) T a w := by
  refine can_pure hm hi hw (v := .slice (if c = p then A else A.map (·.add p)) (q - p) (c - p)) (fun w' => ?_) (h _ ((hr.upto hq).cut hp (by omega)))
  unfold execOp
  simp only [Sem.run_bind, Sem.run_pure, Result.andThen_ok, hx, hy, hz, Option.map_some, Option.map_none, run_cut2b A n c p q hp (show q ≤ c by omega) k k']
/-- 's[:q]' -/
theorem can_upto (hm : mk.contains i = false) (hi : ops[i]? = some ⟨dst, .slice 22 x none (some z) none, ty, pos, af, gd⟩) (hw : Region.wanted ⟨dst, .slice 22 x none (some z) none, ty, pos, af, gd⟩ (yielded ops a.tmps) = true)
    {n c B q : Nat} {k' : IntKind} {A : Option Addr} {xs : List UInt8} (hx : a.eval x = .slice A n c) (hz : a.eval z = .int k' (q : Int)) (hr : Rd w B A n xs) (hq : q ≤ n) (hnc : n ≤ c)
    (h : Rd w B A q (xs.take q) → Walk Try.prog ops Q mk σ T (a.put dst (.slice A q c)) w) : Walk Try.prog ops Q mk (i :: σ) T a w := by
  refine can_pure hm hi hw (v := .slice A q c) (fun w' => ?_) (h (hr.upto hq))
  unfold execOp
  simp only [Sem.run_bind, Sem.run_pure, Result.andThen_ok, hx, hz, Option.map_some, Option.map_none, run_uptob A n c q (show q ≤ c by omega) k']
end
end Go.Proofs.Ytodgnlhakafhoaa.Can
