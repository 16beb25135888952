/- Words for bytes in memory: make and copy. No function of the program is walked here. -/
import Derived.Test.YtodgnlhakafhoaaMemK
import Derived.Laws.CopyOwn
import Derived.Laws.OwnMore
namespace Go.Proofs.Ytodgnlhakafhoaa.Mem
open Go.ChangeShapes Go.WideShapes Go.ChangeAt Go.RowKit

section
variable {ops : Array Oper} {rest : List Oper} {a : Act} {Q : Exit → Act → World → Prop} {w : World}

theorem made_zero (n : Nat) : (madeCells (Value.int .u8 0).cells (n * 1)).toList = cells (List.replicate n 0) := by
  show (madeCells #[Value.int .u8 0] (n * 1)).toList = _
  rw [toList_madeCells_one, Nat.mul_one]
  simp [cells, bc]

/-- 'make([]byte, n)' -/
theorem wpl_make {dst : Option Tmp} {l : Operand} {ty : TypeId} {pos : String} {af : Array Edge} {base n g : Nat} (hl : a.eval l = .int .i64 (n : Int)) (hn : n ≤ 1000000000) (hbase : base ≤ w.heap.size) (hg : g = w.heap.size)
    (h : ∀ w', Own w' base (some ⟨g, 0, none⟩) n n (List.replicate n 0) → Below base w w' → wpList Try.prog ops Q rest (a.put dst (.slice (some ⟨g, 0, none⟩) n n)) w') :
    wpList Try.prog ops Q (⟨dst, .makeSlice 22 l l, ty, pos, af, none⟩ :: rest) a w := by
  subst hg
  obtain ⟨i0, hi, hz0, hz1, hz2⟩ := info_parts info_byte
  refine wpList_make_full w rfl l l 22 rfl base 5 i0 (.int .u8 0) 1 Try.underlying22 hi hz0 hz1 .i64 .i64 n n n hl hl rfl rfl (by rw [hz2]; omega) (by simp only [maxLen]; omega) hbase (fun w' h1 h2 => ?_)
  refine h w' ?_ ((Below.refl _ _).grown h2 hbase fun k hk => by cases hk)
  unfold Own
  rw [← made_zero]; exact h1

/-- 'copy(dst, src)' over a whole row of the call's own -/
theorem wpl_copy {dst : Option Tmp} {d s : Operand} {ty : TypeId} {pos : String} {af : Array Edge} {base n c B : Nat} {A A' : Option Addr} {zs ys : List UInt8}
    (hd : a.eval d = .slice A n n) (hs : a.eval s = .slice A' n c) (hown : Own w base A n n zs) (hr : Rd w B A' n ys)
    (h : ∀ w', Own w' base A n n ys → Below base w w' → wpList Try.prog ops Q rest (a.put dst (goInt (n : Int))) w') :
    wpList Try.prog ops Q (⟨dst, .call { callee := .builtin .copy, args := #[d, s], argTypes := #[22, 22] }, ty, pos, af, none⟩ :: rest) a w := by
  by_cases hn : n = 0
  · subst hn
    have hy : ys = [] := List.eq_nil_of_length_eq_zero hr.1
    have hz : zs = [] := List.eq_nil_of_length_eq_zero hown.len
    subst hy hz
    obtain ⟨i0, hi, hz0, hz1, hz2⟩ := info_parts info_byte
    exact wpList_copy_nothing rfl d s 22 22 rfl 5 Try.underlying22 (by rw [hi]; simp [hz1]) A A' 0 0 0 c hd hs rfl (h w hown (Below.refl _ _))
  · obtain ⟨g', p, hA', hg', hc⟩ := hr.2 (by omega)
    subst hA'
    rcases hown.2 with ⟨hv, hn0⟩ | ⟨g, cap, cur, hv, hb, hg, h1, h2, h3, h4⟩
    · exact absurd hn0 hn
    · injection hv with hv1 hv2 hv3
      subst hv1 hv3
      obtain ⟨i0, hi, hz0, hz1, hz2⟩ := info_parts info_byte
      have hyl : (cells ys).length = n := by rw [cells_length, hr.1]
      have hw := wpList_copy_own (P := Try.prog) (w := w) (ops := ops) (rest := rest) (a := a) (Q := Q) (o := ⟨dst, .call { callee := .builtin .copy, args := #[d, s], argTypes := #[22, 22] }, ty, pos, af, none⟩) rfl d s 22 22 rfl 5 Try.underlying22 (by rw [hi]; simp [hz1]) g 0 n n ⟨g', p, none⟩ n c hd hs cur 5 hg (cells ys) (by rw [hyl]; exact (Nat.min_self n).symm)
        (by
          intro j u hu
          simp only [cells, List.getElem?_map, Option.map_eq_some_iff] at hu
          obtain ⟨x, hx, rfl⟩ := hu
          rw [Addr.add_lit]
          exact hc j x hx) (by rw [hyl]; omega) (cells_one ys)
      refine hw ?_
      rw [hyl]
      refine h _ ?_ (below_setRow (Below.refl _ _) hb _)
      refine ⟨by rw [hyl]; omega, .inr ⟨g, n, _, rfl, hb, setRow_heap w g _ _ _ _ hg, Nat.le_refl _, h2, ?_, ?_⟩⟩
      · simp [hyl]; omega
      · simp [hyl]
end

theorem Own.setAt {w : World} {base n c : Nat} {A : Option Addr} {xs : List UInt8} (h : Own w base A n c xs) {g : Nat} (hg : g < base) (i : Nat) (u : Value) : Own (w.setCell ⟨g, i, none⟩ u) base A n c xs :=
  ownsRow_setCell_below h (a := ⟨g, i, none⟩) hg u
theorem Own.less {w : World} {base base' n c : Nat} {A : Option Addr} {xs : List UInt8} (h : Own w base A n c xs) (hb : base' ≤ base) : Own w base' A n c xs := by
  refine ⟨h.1, ?_⟩
  rcases h.2 with h2 | ⟨g, cap, cur, h1, h2, h3⟩
  · exact .inl h2
  · exact .inr ⟨g, cap, cur, h1, Nat.le_trans hb h2, h3⟩
end Go.Proofs.Ytodgnlhakafhoaa.Mem
