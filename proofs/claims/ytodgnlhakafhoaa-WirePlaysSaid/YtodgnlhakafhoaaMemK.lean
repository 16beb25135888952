/- An append onto a row of the call's own, that keeps a cell outside the row. No function of the program is walked here. -/
import Derived.Test.YtodgnlhakafhoaaMem
namespace Go.Proofs.Ytodgnlhakafhoaa.Mem
open Go.ChangeShapes Go.WideShapes Go.ChangeAt Go.RowKit

/-- The first cell of block g, which is not the row's, holds v. -/
def Bx (w : World) (A : Option Addr) (g : Nat) (v : Value) : Prop := w.cell? ⟨g, 0, none⟩ = some v ∧ ∀ ad, A = some ad → ad.block ≠ g
theorem Bx.cell {w : World} {A : Option Addr} {g : Nat} {v : Value} (h : Bx w A g v) : w.cell? ⟨g, 0, none⟩ = some v := h.1
theorem Bx.lt {w : World} {A : Option Addr} {g : Nat} {v : Value} (h : Bx w A g v) : g < w.heap.size := World.block_lt_of_cell? _ _ h.1
theorem Bx.alloc {w : World} {A : Option Addr} {g : Nat} {v : Value} (h : Bx w A g v) (o : Obj) : Bx (w.alloc o) A g v := ⟨by rw [World.cell?_alloc_lt w o _ h.lt]; exact h.1, h.2⟩
theorem Bx.drewN {w : World} {A : Option Addr} {g : Nat} {v : Value} (h : Bx w A g v) (k : Nat) : Bx (w.drewN k) A g v := h
theorem Bx.new {w : World} {base n c : Nat} {A : Option Addr} {xs : List UInt8} (h : Own w base A n c xs) (v : Value) (t : TypeId) : Bx (w.alloc (.cells #[v] t)) A w.heap.size v :=
  ⟨by simp, fun ad e => by have := h.block ad e; omega⟩

theorem rd_valg (w : World) (x : UInt8) (v : Int) (g : Nat) (hg : g = w.heap.size) (hv : v = (x.toNat : Int)) : Rd (w.alloc (.cells #[.int .u8 v] 5)) (w.heap.size + 1) (some ⟨g, 0, none⟩) 1 [x] := by
  rw [hg]; exact rd_val w x v hv

section
variable {ops : Array Oper} {rest : List Oper} {o : Oper} {a : Act} {Q : Exit → Act → World → Prop} {w : World}

theorem run_appk {base n c m d B : Nat} {A A' : Option Addr} {xs ys : List UInt8} (ty : TypeId) (hown : Own w base A n c xs) (hr : Rd w B A' m ys)
    (hsz : n + m ≤ 140737488355328) (hbase : base ≤ w.heap.size) (g0 : Nat) (v0 : Value) (hbx : Bx w A g0 v0) :
    ∃ A2 c2 w', (Builtin.append_ #[22, 22] ty #[.slice A n c, .slice A' m d]).run Try.prog w = .ok (.slice A2 (n + m) c2) w' ∧ Own w' base A2 (n + m) c2 (xs ++ ys) ∧ Below base w w' ∧ Bx w' A2 g0 v0 := by
  obtain ⟨i0, hi, hz0, hz1, hz2⟩ := info_parts info_byte
  by_cases hm : m = 0
  · subst hm
    have hy : ys = [] := List.eq_nil_of_length_eq_zero hr.1
    subst hy
    exact ⟨A, c, w, run_app_zero Try.underlying22 hi hz1 hown ty A' d, by simpa using hown, Below.refl _ _, hbx⟩
  · obtain ⟨g, p, rfl, hg, hc⟩ := hr.2 (by omega)
    obtain ⟨v', w', hrun, h2, h3, h4, h5⟩ := run_append_own_at (P := Try.prog) w base 22 ty 5 i0 (.int .u8 0) 1 1 Try.underlying22 hi hz0 hz1 hz2 rfl (by decide)
      (.slice A n c) n (cells xs) hown ⟨g, p, none⟩ m d (cells ys) (by rw [cells_length, hr.1]; omega)
      (by
        intro j u hu
        simp only [cells, List.getElem?_map, Option.map_eq_some_iff] at hu
        obtain ⟨x, hx, rfl⟩ := hu
        rw [Addr.add_lit]
        exact hc j x hx)
      (cells_one ys) (by simp only [maxLen]; omega) (by omega) hbase
    have hform : ∃ A2 c2, v' = .slice A2 (n + m) c2 := by
      rcases h2.2 with ⟨rfl, hn0⟩ | ⟨g', cap, cur, rfl, _⟩
      · exact ⟨none, 0, by rw [hn0]⟩
      · exact ⟨_, _, rfl⟩
    obtain ⟨A2, c2, rfl⟩ := hform
    have hlt := hbx.lt
    refine ⟨A2, c2, w', hrun, by unfold Own; rw [cells_append]; exact h2, ?_, ?_, ?_⟩
    · refine (Below.refl _ _).grown h3 hbase fun k hk => ?_
      cases A with
      | none => simp [Value.ownBlock] at hk
      | some ad =>
        simp only [Value.ownBlock, Option.some.injEq] at hk
        have := (hown.block ad rfl).1
        omega
    · rw [← hbx.1]
      refine World.cell?_of_block (w := w) (h3.block g0 hlt fun e => ?_)
      cases A with
      | none => simp [Value.ownBlock] at e
      | some ad =>
        simp only [Value.ownBlock, Option.some.injEq] at e
        exact hbx.2 ad rfl e.symm
    · rintro ad rfl
      rcases h5 with h5 | h5
      · cases A with
        | none => simp [Value.ownBlock] at h5
        | some ad' =>
          simp only [Value.ownBlock, Option.some.injEq] at h5
          have := hbx.2 ad' rfl
          omega
      · simp only [Value.ownBlock, Option.some.injEq] at h5
        omega

/-- 'append(b, ys...)' onto a row of the call's own, a cell kept. -/
theorem wpl_appk {dst : Option Tmp} {s x : Operand} {ty : TypeId} {pos : String} {af : Array Edge} {gd : Option (Nat × Bool)}
    (hw : Region.wanted ⟨dst, .call { callee := .builtin .append, args := #[s, x], argTypes := #[22, 22] }, ty, pos, af, gd⟩ (yielded ops a.tmps) = true)
    {base n c m d B : Nat} {A A' : Option Addr} {xs ys : List UInt8} (hs : a.eval s = .slice A n c) (hown : Own w base A n c xs) (hx : a.eval x = .slice A' m d) (hr : Rd w B A' m ys)
    (hsz : n + m ≤ 140737488355328) (hbase : base ≤ w.heap.size) {g0 : Nat} {v0 : Value} (hbx : Bx w A g0 v0)
    (h : ∀ A2 c2 w', Own w' base A2 (n + m) c2 (xs ++ ys) → Below base w w' → Bx w' A2 g0 v0 → wpList Try.prog ops Q rest (a.put dst (.slice A2 (n + m) c2)) w') :
    wpList Try.prog ops Q (⟨dst, .call { callee := .builtin .append, args := #[s, x], argTypes := #[22, 22] }, ty, pos, af, gd⟩ :: rest) a w := by
  refine BigFrame.wpList_want hw fun K hK => ?_
  obtain ⟨A2, c2, w', hrun, h2, h3, h4⟩ := run_appk (w := w) ty hown hr hsz hbase (d := d) g0 v0 hbx
  unfold Oper.wp execOp
  simp only [resolve, invoke, builtin, Sem.run_bind, Sem.run_pure, Result.andThen_ok, List.map_toArray, List.map_cons, List.map_nil, hs, hx, hrun]
  exact hK _ _ (h A2 c2 w' h2 h3 h4)
end
end Go.Proofs.Ytodgnlhakafhoaa.Mem
