/- The layer varint: a reader takes a byte in. -/
import Derived.Test.YtodgnlhakafhoaaVar
import Derived.Deep.QuietTactic
import Derived.BigQuiet
import Derived.BigRegion
namespace Go.Proofs.Ytodgnlhakafhoaa.Vr
open Go.ChangeShapes Go.WideShapes Go.ChangeAt Go.RowKit
open Num Zg Mem

/-- a reader in memory -/
def Rdr (w : World) (g : Nat) (u s most last n : Int) : Prop :=
  w.heap[g]? = some (.cells #[.int .u64 u, .int .u64 s, .int .i64 most, .int .u8 last, .int .i64 n] 86 (0, 0))
section
variable {w : World} {g : Nat} {u s most last n : Int}
theorem Rdr.cells (h : Rdr w g u s most last n) : w.cell? ⟨g, 0, none⟩ = some (.int .u64 u) ∧ w.cell? ⟨g, 1, none⟩ = some (.int .u64 s) ∧ w.cell? ⟨g, 2, none⟩ = some (.int .i64 most) ∧
    w.cell? ⟨g, 3, none⟩ = some (.int .u8 last) ∧ w.cell? ⟨g, 4, none⟩ = some (.int .i64 n) := by
  refine ⟨?_, ?_, ?_, ?_, ?_⟩ <;> (rw [cell_of_row w g _ _ _ _ h]; rfl)
theorem Rdr.free (h : Rdr w g u s most last n) (i : Nat) : w.frozen? ⟨g, i, none⟩ = false := by
  unfold Rdr at h; simp [World.frozen?, h]
theorem Rdr.drewN (h : Rdr w g u s most last n) (k : Nat) : Rdr (w.drewN k) g u s most last n := h
theorem Rdr.set0 (h : Rdr w g u s most last n) (x : Int) : Rdr (w.setCell ⟨g, 0, none⟩ (.int .u64 x)) g x s most last n := by
  unfold Rdr at h ⊢; simp [World.setCell, Array.getElem?_modify, h]
theorem Rdr.set1 (h : Rdr w g u s most last n) (x : Int) : Rdr (w.setCell ⟨g, 1, none⟩ (.int .u64 x)) g u x most last n := by
  unfold Rdr at h ⊢; simp [World.setCell, Array.getElem?_modify, h]
theorem Rdr.set4 (h : Rdr w g u s most last n) (x : Int) : Rdr (w.setCell ⟨g, 4, none⟩ (.int .i64 x)) g u s most last x := by
  unfold Rdr at h ⊢; simp [World.setCell, Array.getElem?_modify, h]
end

theorem feed_form1 (w : World) (g : Nat) (u s most last n c : Int) (h : Rdr w g u s most last n) (hn : 0 ≤ n) (hn2 : n ≤ 100) (hm : most = n + 1) (hc : last < c) :
    Calls Try.prog 79 #[.pointer (some ⟨g, 0, none⟩), .int .u8 c] w fun e w' => e = .returned (.tuple #[.bool false, .int .i64 11]) ∧ Below g w w' := by
  obtain ⟨c0, c1, c2, c3, c4⟩ := h.cells
  have f4 := h.free 4
  subst hm
  go_enter Try.func79, Try.ntmps79
  go_wp2
  go_quiet (fail)
  go_wp2
  go_ret2
  exact ⟨rfl, ((Below.refl _ _).setAt _ _).drewN _⟩
theorem feed_form0 (w : World) (g : Nat) (u s most last n : Int) (h : Rdr w g u s most last n) (hn : 0 < n) (hn2 : n ≤ 100) (hm : most = n + 1 → 0 ≤ last) :
    Calls Try.prog 79 #[.pointer (some ⟨g, 0, none⟩), .int .u8 0] w fun e w' => e = .returned (.tuple #[.bool false, .int .i64 11]) ∧ Below g w w' := by
  obtain ⟨c0, c1, c2, c3, c4⟩ := h.cells
  have f4 := h.free 4
  by_cases hmm : most = n + 1
  · have hl := hm hmm
    subst hmm
    clear hm
    go_enter Try.func79, Try.ntmps79
    go_wp2
    go_quiet (fail)
    go_wp2
    go_ret2
    exact ⟨rfl, ((Below.refl _ _).setAt _ _).drewN _⟩
  · have hb : (n + 1 == most) = false := by simp; omega
    clear hm hmm
    go_enter Try.func79, Try.ntmps79
    go_wp2
    go_quiet (fail)
    go_wp2
    go_ret2
    exact ⟨rfl, ((Below.refl _ _).setAt _ _).drewN _⟩
/-- what a byte adds -/
def addU (u s c : Int) : Int := bits BinOp.or IntKind.u64 u (IntKind.u64.wrap (IntKind.u64.wrap (bits BinOp.and IntKind.u8 c 127) * 2 ^ s.toNat))
theorem feed_ok (w : World) (g : Nat) (u s most last n c : Int) (h : Rdr w g u s most last n) (hn : 0 ≤ n) (hn2 : n ≤ 100) (hs : 0 ≤ s) (hs2 : s ≤ 63) (hm : most ≠ n + 1 ∨ c ≤ last) (hc : 0 < c ∨ n = 0) (hc0 : 0 ≤ c) (hc2 : c ≤ 255) :
    Calls Try.prog 79 #[.pointer (some ⟨g, 0, none⟩), .int .u8 c] w fun e w' => e = .returned (.tuple #[.bool (decide (c < 128)), .int .i64 0]) ∧
      Rdr w' g (addU u s c) (s + 7) most last (n + 1) ∧ Below g w w' := by
  have h4 := h.set4 (n + 1)
  obtain ⟨c0, c1, c2, c3, c4⟩ := h.cells
  have f0 := h.free 0
  have f1 := h.free 1
  have f4 := h.free 4
  have hB : (n + 1 == most) = false ∨ most = n + 1 ∧ c ≤ last := by
    by_cases e : most = n + 1
    · right; exact ⟨e, by omega⟩
    · left; simp; omega
  have hC : (c == 0) = false ∨ c = 0 ∧ n = 0 := by
    by_cases e : c = 0
    · right; exact ⟨e, by omega⟩
    · left; simp [e]
  clear hm hc
  rcases hB with hB | ⟨rfl, hB⟩ <;> rcases hC with hC | ⟨rfl, rfl⟩
  all_goals
    try (have hB' : ((1 : Int) == most) = false := by simpa using hB)
    go_enter Try.func79, Try.ntmps79
    go_wp2
    go_quiet (fail)
    go_wp2
    go_region
    go_wp2
    go_ret2
    exact ⟨rfl, ((h4.drewN _).set0 _).set1 _, ((((Below.refl _ _).setAt _ _).drewN _).setAt _ _).setAt _ _⟩
end Go.Proofs.Ytodgnlhakafhoaa.Vr
