/- Words for bytes in memory: a slice that reads as a list of bytes; a row of the call's own; append and string(b) as laws on those words. No function of the program is walked here. -/
import Derived.Test.YtodgnlhakafhoaaRows
import Derived.Test.YtodgnlhakafhoaaNum
import Derived.WalkKit
import Derived.ProofKit
import Derived.OpenShut
import Derived.Outline
import Derived.WalkLawsBesides
import Derived.Lib.Hide
import Derived.Deep.LoopGhost
import Derived.Laws.BytesArg
import Derived.Maps.AppendAt
import Derived.Deep.AppendLies
import Derived.Laws.AppendOwnNone
import Derived.Deep.Draws
namespace Go.Proofs.Ytodgnlhakafhoaa.Mem
open Go.ChangeShapes Go.WideShapes Go.ChangeAt Go.RowKit

theorem _root_.Go.RowKit.Below.drewN {B : Nat} {a w : World} (h : Below B a w) (n : Nat) : Below B a (w.drewN n) := ⟨h.os, h.tape, h.output, h.size, h.block⟩

theorem _root_.Go.RowKit.Below.setAt {g : Nat} {a w : World} (h : Below g a w) (i : Nat) (u : Value) : Below g a (w.setCell ⟨g, i, none⟩ u) := h.setCell (p := ⟨g, i, none⟩) (Nat.le_refl g) u

/-- chains: B at most the heap's size when the call began -/
theorem _root_.Go.RowKit.Below.thn {B : Nat} {a b c : World} (h : Below B a b) (hB : B ≤ a.heap.size) (hb : Below b.heap.size b c) : Below B a c := h.trans (hb.mono (Nat.le_trans hB h.size))
theorem _root_.Go.RowKit.Below.al {B : Nat} {a b : World} (h : Below B a b) (hB : B ≤ a.heap.size) (o : Obj) : Below B a (b.alloc o) := h.alloc (Nat.le_trans hB h.size) o

/-- a byte's cell -/
def bc (x : UInt8) : Value := .int .u8 (x.toNat : Int)
def cells (xs : List UInt8) : List Value := xs.map bc
theorem cells_length (xs : List UInt8) : (cells xs).length = xs.length := List.length_map ..
theorem cells_append (xs ys : List UInt8) : cells (xs ++ ys) = cells xs ++ cells ys := List.map_append ..
theorem cells_one (xs : List UInt8) : ∀ u ∈ cells xs, u.oneCell' = true := by
  intro u hu
  obtain ⟨x, _, rfl⟩ := List.mem_map.1 hu
  rfl

/-- The slice value '.slice A n c' reads as the bytes xs, which lie below block B. -/
def Rd (w : World) (B : Nat) (A : Option Addr) (n : Nat) (xs : List UInt8) : Prop :=
  xs.length = n ∧ (0 < n → ∃ g o, A = some ⟨g, o, none⟩ ∧ g < B ∧ ∀ j x, xs[j]? = some x → w.cell? ⟨g, o + j, none⟩ = some (.int .u8 (x.toNat : Int)))

section
variable {w w' : World} {B B' n : Nat} {A : Option Addr} {xs ys : List UInt8}
theorem Rd.len (h : Rd w B A n xs) : xs.length = n := h.1
theorem Rd.nil (w : World) (B : Nat) (A : Option Addr) : Rd w B A 0 [] := ⟨rfl, fun h => absurd h (by omega)⟩
theorem Rd.at_ (h : Rd w B A n xs) {k : Nat} (hk : k < n) :
    ∃ g o x, A = some ⟨g, o, none⟩ ∧ g < B ∧ xs[k]? = some x ∧ w.cell? ⟨g, o + k, none⟩ = some (.int .u8 (x.toNat : Int)) := by
  obtain ⟨g, o, e, hb, hc⟩ := h.2 (by omega)
  have hl : k < xs.length := by have := h.1; omega
  exact ⟨g, o, xs[k], e, hb, List.getElem?_eq_getElem hl, hc k _ (List.getElem?_eq_getElem hl)⟩
theorem Rd.keep (h : Rd w B A n xs) (hk : ∀ p : Addr, p.block < B → w'.cell? p = w.cell? p) : Rd w' B A n xs :=
  ⟨h.1, fun hn => by
    obtain ⟨g, o, e, hb, hc⟩ := h.2 hn
    exact ⟨g, o, e, hb, fun j u hu => (hk _ hb).trans (hc j u hu)⟩⟩
theorem Rd.more (h : Rd w B A n xs) (hB : B ≤ B') : Rd w B' A n xs :=
  ⟨h.1, fun hn => by
    obtain ⟨g, o, e, hb, hc⟩ := h.2 hn
    exact ⟨g, o, e, by omega, hc⟩⟩
theorem Rd.below (h : Rd w B A n xs) (hb : Below B w w') : Rd w' B A n xs := h.keep fun _ hp => hb.cell hp
theorem Rd.below' (h : Rd w B A n xs) (hb : Below B' w w') (hB : B ≤ B') : Rd w' B A n xs := h.keep fun _ hp => hb.cell (by omega)
theorem Rd.drewN (h : Rd w B A n xs) (k : Nat) : Rd (w.drewN k) B A n xs := h
theorem Rd.drew (h : Rd w B A n xs) : Rd w.drew B A n xs := h
theorem Rd.alloc (h : Rd w B A n xs) (hB : B ≤ w.heap.size) (o : Obj) : Rd (w.alloc o) B A n xs := h.keep fun p hp => World.cell?_alloc_lt w o p (by omega)
/-- a cut from k on -/
theorem Rd.cut (h : Rd w B A n xs) {k cap : Nat} (hk : k ≤ n) (hc : n ≤ cap) :
    Rd w B (if cap = k then A else A.map (·.add k)) (n - k) (xs.drop k) := by
  refine ⟨by rw [List.length_drop, h.1], fun hn => ?_⟩
  obtain ⟨g, o, rfl, hb, hcell⟩ := h.2 (by omega)
  rw [if_neg (by omega)]
  refine ⟨g, o + k, by simp [Addr.add_lit], hb, fun j u hu => ?_⟩
  rw [Nat.add_assoc]
  exact hcell _ u (by rw [← hu, List.getElem?_drop])
/-- a cut up to k -/
theorem Rd.upto (h : Rd w B A n xs) {k : Nat} (hk : k ≤ n) : Rd w B A k (xs.take k) := by
  refine ⟨by rw [List.length_take, h.1]; omega, fun hn => ?_⟩
  obtain ⟨g, o, rfl, hb, hcell⟩ := h.2 (by omega)
  refine ⟨g, o, rfl, hb, fun j u hu => hcell j u ?_⟩
  rw [List.getElem?_take] at hu
  split at hu
  · exact hu
  · cases hu
end

/-- The slice value '.slice A n c' is a row of the call's own, from block 'base' on, and reads as the bytes xs. -/
def Own (w : World) (base : Nat) (A : Option Addr) (n c : Nat) (xs : List UInt8) : Prop :=
  w.ownsRow base 5 1 (.slice A n c) n (cells xs)

section
variable {w w' : World} {base n c : Nat} {A : Option Addr} {xs ys : List UInt8}
theorem Own.len (h : Own w base A n c xs) : xs.length = n := by have := h.1; rw [cells_length] at this; omega
theorem Own.nil (w : World) (base : Nat) : Own w base none 0 0 [] := World.ownsRow_nil w base 5 1
theorem Own.rd (h : Own w base A n c xs) : Rd w w.heap.size A n xs := by
  refine ⟨h.len, fun hn => ?_⟩
  obtain ⟨g, cap, hv, _, hlt⟩ := World.ownsRow.form h hn
  have hA : A = some ⟨g, 0, none⟩ := by injection hv
  subst hA
  refine ⟨g, 0, rfl, hlt, fun j x hx => ?_⟩
  have := World.ownsRow.cells (g := g) h rfl j (bc x) (by simp [cells, hx])
  rw [Addr.add_lit] at this
  exact this
theorem Own.block (h : Own w base A n c xs) : ∀ ad, A = some ad → base ≤ ad.block ∧ ad.block < w.heap.size := by
  rintro ad rfl
  exact World.ownsRow.lt h ad.block rfl
theorem Own.below (h : Own w base A n c xs) (hb : Below w.heap.size w w') : Own w' base A n c xs :=
  World.ownsRow.kept h (row := none) ⟨hb.os, hb.tape, hb.output, hb.size, fun k hk _ => hb.block k hk⟩ (by cases A <;> simp [Value.ownBlock])
theorem Own.alloc (h : Own w base A n c xs) (o : Obj) : Own (w.alloc o) base A n c xs := World.ownsRow.alloc h o
theorem Own.drewN (h : Own w base A n c xs) (k : Nat) : Own (w.drewN k) base A n c xs := h
theorem Own.drew (h : Own w base A n c xs) : Own w.drew base A n c xs := h
theorem Own.cap (h : Own w base A n c xs) : n ≤ c := by
  rcases h.2 with ⟨hv, h0⟩ | ⟨g, cap, cur, hv, hb, hg, h1, _⟩
  · omega
  · injection hv with _ _ hc
    omega
/-- a new block of bytes, whole -/
theorem Own.lit (w : World) (base : Nat) (xs : List UInt8) (hb : base ≤ w.heap.size) (hm : xs.length ≤ maxLen) :
    Own (w.alloc (.cells (cells xs).toArray 5)) base (some ⟨w.heap.size, 0, none⟩) xs.length xs.length xs := by
  refine ⟨by simp [cells_length], .inr ⟨w.heap.size, xs.length, (cells xs).toArray, rfl, hb, heap_alloc_new w _, Nat.le_refl _, hm, by simp [cells_length], ?_⟩⟩
  rw [List.take_of_length_le (by simp [cells_length])]
end

theorem rd_one (w : World) (x : UInt8) : Rd (w.alloc (.cells #[.int .u8 (x.toNat : Int)] 5)) (w.heap.size + 1) (some ⟨w.heap.size, 0, none⟩) 1 [x] := by
  refine ⟨rfl, fun _ => ⟨w.heap.size, 0, rfl, by omega, fun j y hy => ?_⟩⟩
  match j, hy with
  | 0, hy =>
    simp at hy
    subst hy
    simp

theorem rd_val (w : World) (x : UInt8) (v : Int) (hv : v = (x.toNat : Int)) : Rd (w.alloc (.cells #[.int .u8 v] 5)) (w.heap.size + 1) (some ⟨w.heap.size, 0, none⟩) 1 [x] := by
  rw [hv]; exact rd_one w x

/-- a new block of bytes, read -/
theorem rd_lit (w : World) (xs : List UInt8) : Rd (w.alloc (.cells (cells xs).toArray 5)) (w.heap.size + 1) (some ⟨w.heap.size, 0, none⟩) xs.length xs := by
  refine ⟨rfl, fun _ => ⟨w.heap.size, 0, rfl, by omega, fun j y hy => ?_⟩⟩
  rw [cell_of_row _ _ _ _ _ _ (heap_alloc_new w _)]
  simp [cells, hy, bc]

/-- a slice of bytes that came in -/
theorem rd_row {w : World} {a : Option Addr} {len cap : Nat} {z : List Int}
    (h : (a = none ∧ len = 0 ∧ cap = 0 ∧ z = []) ∨ ∃ x, a = some x ∧ len ≤ cap ∧ cap ≤ maxLen ∧ z.length = cap ∧ (∀ i, i < z.length → w.cell? (x.add i) = some (.int .u8 (z.getD i 0))) ∧ ∀ n ∈ z, (Lit.int .u8 n).wf = true) :
    ∃ xs, Rd w w.heap.size a len xs ∧ len ≤ cap ∧ len ≤ maxLen := by
  rcases h with ⟨rfl, rfl, rfl, _⟩ | ⟨x, rfl, hl, hm, hz, hc, hw⟩
  · exact ⟨[], Rd.nil _ _ _, Nat.le_refl _, by simp [maxLen]⟩
  · refine ⟨(z.take len).map (fun v => UInt8.ofNat v.toNat), ⟨by simp; omega, fun hn => ?_⟩, hl, by omega⟩
    have h0 := hc 0 (by omega)
    obtain ⟨g, o, sp⟩ := x
    have hspot : sp = none := by simpa [Addr.add] using World.cell?_spot h0
    subst hspot
    refine ⟨g, o, rfl, by simpa [Addr.add] using World.block_lt_of_cell? _ _ h0, fun j y hy => ?_⟩
    simp only [List.getElem?_map, Option.map_eq_some_iff] at hy
    obtain ⟨v, hv, rfl⟩ := hy
    rw [List.getElem?_take] at hv
    split at hv
    · have hjl := (List.getElem?_eq_some_iff.1 hv).1
      have hcj := hc j hjl
      rw [Addr.add_lit] at hcj
      rw [hcj]
      have hb := Fits.u8 (hw v (List.mem_of_getElem? hv))
      simp only [List.getD, hv, Option.getD_some]
      rw [UInt8.toNat_ofNat']
      congr 2
      omega
    · cases hv

theorem info_byte : (Try.prog.info? 5).map (fun i => (i.zero, i.size, i.bytes)) = some (some (.int .u8 0), 1, 1) := by kernel_rfl

section
variable {ops : Array Oper} {rest : List Oper} {o : Oper} {a : Act} {Q : Exit → Act → World → Prop} {w : World}

theorem run_app_zero {P : Program} {base n c : Nat} {A : Option Addr} {xs : List UInt8} {t : TypeId} {i : TypeInfo} (ht : P.underlying t = some (.slice 5)) (hi : P.info? 5 = some i) (_hz : i.size = 1)
    (hown : Own w base A n c xs) (ty : TypeId) (A' : Option Addr) (d : Nat) : (Builtin.append_ #[t, t] ty #[.slice A n c, .slice A' 0 d]).run P w = .ok (.slice A n c) w := by
  rcases hown.2 with ⟨hv, hn0⟩ | ⟨g, cap, cur, hv, _, _, hnc, _⟩
  · injection hv with h1 h2 h3
    subst h1 h2 h3
    cases A' <;> simp [Builtin.append_, run_underlying ht, sizeOf, typeInfo, hi, Builtin.lenOf, Builtin.firstCells, loadCells, loadCellsFrom]
  · injection hv with h1 h2 h3
    subst h1 h3
    cases A' <;> simp [Builtin.append_, run_underlying ht, sizeOf, typeInfo, hi, Builtin.lenOf, Builtin.firstCells, hnc, storeCells, loadCells, loadCellsFrom]

theorem run_app {base n c m d B : Nat} {A A' : Option Addr} {xs ys : List UInt8} (ty : TypeId) (hown : Own w base A n c xs) (hr : Rd w B A' m ys)
    (hsz : n + m ≤ 140737488355328) (hbase : base ≤ w.heap.size) :
    ∃ A2 c2 w', (Builtin.append_ #[22, 22] ty #[.slice A n c, .slice A' m d]).run Try.prog w = .ok (.slice A2 (n + m) c2) w' ∧ Own w' base A2 (n + m) c2 (xs ++ ys) ∧ Below base w w' := by
  obtain ⟨i0, hi, hz0, hz1, hz2⟩ := info_parts info_byte
  by_cases hm : m = 0
  · subst hm
    have hy : ys = [] := List.eq_nil_of_length_eq_zero hr.1
    subst hy
    exact ⟨A, c, w, run_app_zero Try.underlying22 hi hz1 hown ty A' d, by simpa using hown, Below.refl _ _⟩
  · obtain ⟨g, p, rfl, hg, hc⟩ := hr.2 (by omega)
    obtain ⟨v', w', hrun, h2, h3, h4, h5⟩ := run_append_own_at (P := Try.prog) w base 22 ty 5 i0 (.int .u8 0) 1 1 Try.underlying22 hi hz0 hz1 hz2 rfl (by decide)
      (.slice A n c) n (cells xs) hown ⟨g, p, none⟩ m d (cells ys) (by rw [cells_length, hr.1]; omega)
      (by
        intro j u hu
        simp only [cells, List.getElem?_map, Option.map_eq_some_iff] at hu
        obtain ⟨x, hx, rfl⟩ := hu
        rw [Addr.add_lit]
        exact hc j x hx)
      (cells_one ys) (by simp only [maxLen]; omega) (by omega) hbase
    have hform : ∃ A2 c2, v' = .slice A2 (n + m) c2 := by
      rcases h2.2 with ⟨rfl, hn0⟩ | ⟨g', cap, cur, rfl, _⟩
      · exact ⟨none, 0, by rw [hn0]⟩
      · exact ⟨_, _, rfl⟩
    obtain ⟨A2, c2, rfl⟩ := hform
    refine ⟨A2, c2, w', hrun, by unfold Own; rw [cells_append]; exact h2, ?_⟩
    refine (Below.refl _ _).grown h3 hbase fun k hk => ?_
    cases A with
    | none => simp [Value.ownBlock] at hk
    | some ad =>
      simp only [Value.ownBlock, Option.some.injEq] at hk
      have := (hown.block ad rfl).1
      omega

/-- 'append(b, ys...)' onto a row of the call's own. -/
theorem wpl_app {dst : Option Tmp} {s x : Operand} {ty : TypeId} {pos : String} {af : Array Edge} {gd : Option (Nat × Bool)}
    (hw : Region.wanted ⟨dst, .call { callee := .builtin .append, args := #[s, x], argTypes := #[22, 22] }, ty, pos, af, gd⟩ (yielded ops a.tmps) = true)
    {base n c m d B : Nat} {A A' : Option Addr} {xs ys : List UInt8} (hs : a.eval s = .slice A n c) (hown : Own w base A n c xs) (hx : a.eval x = .slice A' m d) (hr : Rd w B A' m ys)
    (hsz : n + m ≤ 140737488355328) (hbase : base ≤ w.heap.size)
    (h : ∀ A2 c2 w', Own w' base A2 (n + m) c2 (xs ++ ys) → Below base w w' → wpList Try.prog ops Q rest (a.put dst (.slice A2 (n + m) c2)) w') :
    wpList Try.prog ops Q (⟨dst, .call { callee := .builtin .append, args := #[s, x], argTypes := #[22, 22] }, ty, pos, af, gd⟩ :: rest) a w := by
  refine BigFrame.wpList_want hw fun K hK => ?_
  obtain ⟨A2, c2, w', hrun, h2, h3⟩ := run_app (w := w) ty hown hr hsz hbase (d := d)
  unfold Oper.wp execOp
  simp only [resolve, invoke, builtin, Sem.run_bind, Sem.run_pure, Result.andThen_ok, List.map_toArray, List.map_cons, List.map_nil, hs, hx, hrun]
  exact hK _ _ (h A2 c2 w' h2 h3)

theorem run_str_zero {P : Program} {src e dst : TypeId} (hs : P.underlying src = some (.slice e)) (he : P.underlying e = some (.int .u8)) (hd : P.underlying dst = some .string) (A : Option Addr) (c : Nat) :
    (convert src dst (.slice A 0 c)).run P w = .ok (.string ⟨([] : List UInt8).toArray⟩) w := by
  rw [run_convert_bytes_string w _ _ e _ _ _ hs he hd]
  cases A with
  | none => simp [Conv.bytesToString]; rfl
  | some ad => simp [Conv.bytesToString, loadCells, loadCellsFrom]; rfl
theorem strOfNums_bytes (xs : List UInt8) : strOfNums (xs.map fun x => (x.toNat : Int)) = ⟨xs.toArray⟩ := by
  simp only [strOfNums, List.map_map]
  rw [show ((fun n : Int => UInt8.ofNat n.toNat) ∘ fun x : UInt8 => (x.toNat : Int)) = id from by funext x; simp, List.map_id]
theorem run_str {n c B : Nat} {A : Option Addr} {xs : List UInt8} (hr : Rd w B A n xs) :
    (convert 22 9 (.slice A n c)).run Try.prog w = .ok (.string ⟨xs.toArray⟩) w := by
  by_cases hn : n = 0
  · subst hn
    have hy : xs = [] := List.eq_nil_of_length_eq_zero hr.1
    subst hy
    exact run_str_zero Try.underlying22 Try.underlying5 Try.underlying9 A c
  · obtain ⟨g, p, rfl, hg, hc⟩ := hr.2 (by omega)
    have h := run_convert_bytes_arg (P := Try.prog) w 22 5 Try.underlying22 Try.underlying5 g p n c (xs.map fun x => (x.toNat : Int)) (by simp [hr.1])
      (by
        intro i hi
        have hl : i < xs.length := by have := hr.1; omega
        rw [hc i xs[i] (List.getElem?_eq_getElem hl)]
        simp [List.getD, hl])
      9 Try.underlying9
    rw [strOfNums_bytes] at h
    exact h
theorem exec_str {dst : Option Tmp} {x : Operand} {ty : TypeId} {pos : String} {af : Array Edge} {gd : Option (Nat × Bool)} {n c B : Nat} {A : Option Addr} {xs : List UInt8}
    (hx : a.eval x = .slice A n c) (hr : Rd w B A n xs) : (execOp a.eval ⟨dst, .convert 22 9 x, ty, pos, af, gd⟩).run Try.prog w = .ok (.value (.string ⟨xs.toArray⟩)) w := by
  unfold execOp
  simp only [Sem.run_bind, Sem.run_pure, Result.andThen_ok, hx, run_str hr]
/-- 'string(b)' -/
theorem wpl_str {dst : Option Tmp} {x : Operand} {ty : TypeId} {pos : String} {af : Array Edge} {gd : Option (Nat × Bool)}
    (hw : Region.wanted ⟨dst, .convert 22 9 x, ty, pos, af, gd⟩ (yielded ops a.tmps) = true)
    {n c B : Nat} {A : Option Addr} {xs : List UInt8} (hx : a.eval x = .slice A n c) (hr : Rd w B A n xs)
    (h : wpList Try.prog ops Q rest (a.put dst (.string ⟨xs.toArray⟩)) w) :
    wpList Try.prog ops Q (⟨dst, .convert 22 9 x, ty, pos, af, gd⟩ :: rest) a w := by
  refine BigFrame.wpList_want hw fun K hK => ?_
  unfold Oper.wp execOp
  simp only [Sem.run_bind, Sem.run_pure, Result.andThen_ok, hx, run_str hr]
  exact hK _ _ h

/-! ### cuts -/
theorem run_cut {P : Program} {t e : TypeId} {i : TypeInfo} (ht : P.underlying t = some (.slice e)) (hi : P.info? e = some i) (hz : i.size = 1) (A : Option Addr) (n c p : Nat) (hp : p ≤ n) (k : IntKind) :
    (Instr.sliceAt t (.slice A n c) (some (.int k (p : Int))) none none).run P w = .ok (.slice (if c = p then A else A.map (·.add p)) (n - p) (c - p)) w := by
  have ht' : P.underlying t = some (.slice (P.elem t)) := by simp [Program.elem, ht]
  have he : P.elem t = e := by simp [Program.elem, ht]
  rw [run_sliceAt_slice w t _ _ _ _ ht', run_slice_l w t _ _ _ ht' _ _ (by omega) (by omega), he]
  simp [sizeOf, typeInfo, hi, hz, Result.andThen, sliced]
theorem run_cut2 {P : Program} {t e : TypeId} {i : TypeInfo} (ht : P.underlying t = some (.slice e)) (hi : P.info? e = some i) (hz : i.size = 1) (A : Option Addr) (n c p q : Nat) (hp : p ≤ q) (hq : q ≤ c) (k k' : IntKind) :
    (Instr.sliceAt t (.slice A n c) (some (.int k (p : Int))) (some (.int k' (q : Int))) none).run P w = .ok (.slice (if c = p then A else A.map (·.add p)) (q - p) (c - p)) w := by
  have ht' : P.underlying t = some (.slice (P.elem t)) := by simp [Program.elem, ht]
  have he : P.elem t = e := by simp [Program.elem, ht]
  rw [run_sliceAt_slice w t _ _ _ _ ht', run_slice_lh w t _ _ _ ht' _ _ _ _ (by omega) (by omega) (by omega), he]
  simp [sizeOf, typeInfo, hi, hz, Result.andThen, sliced]
theorem run_upto {P : Program} {t e : TypeId} {i : TypeInfo} (ht : P.underlying t = some (.slice e)) (hi : P.info? e = some i) (hz : i.size = 1) (A : Option Addr) (n c q : Nat) (hq : q ≤ c) (k : IntKind) :
    (Instr.sliceAt t (.slice A n c) none (some (.int k (q : Int))) none).run P w = .ok (.slice A q c) w := by
  have ht' : P.underlying t = some (.slice (P.elem t)) := by simp [Program.elem, ht]
  have he : P.elem t = e := by simp [Program.elem, ht]
  rw [run_sliceAt_slice w t _ _ _ _ ht', run_slice_h w t _ _ _ ht' _ _ (by omega) (by omega), he]
  have h0 : ∀ a : Addr, a.add 0 = a := fun a => by simp [Addr.add]
  simp [sizeOf, typeInfo, hi, hz, Result.andThen, sliced, h0]

theorem run_cutb (A : Option Addr) (n c p : Nat) (hp : p ≤ n) (k : IntKind) :
    (Instr.sliceAt 22 (.slice A n c) (some (.int k (p : Int))) none none).run Try.prog w = .ok (.slice (if c = p then A else A.map (·.add p)) (n - p) (c - p)) w := by
  obtain ⟨i0, hi, hz0, hz1, hz2⟩ := info_parts info_byte
  exact run_cut Try.underlying22 hi hz1 A n c p hp k
theorem run_cut2b (A : Option Addr) (n c p q : Nat) (hp : p ≤ q) (hq : q ≤ c) (k k' : IntKind) :
    (Instr.sliceAt 22 (.slice A n c) (some (.int k (p : Int))) (some (.int k' (q : Int))) none).run Try.prog w = .ok (.slice (if c = p then A else A.map (·.add p)) (q - p) (c - p)) w := by
  obtain ⟨i0, hi, hz0, hz1, hz2⟩ := info_parts info_byte
  exact run_cut2 Try.underlying22 hi hz1 A n c p q hp hq k k'
theorem run_uptob (A : Option Addr) (n c q : Nat) (hq : q ≤ c) (k : IntKind) :
    (Instr.sliceAt 22 (.slice A n c) none (some (.int k (q : Int))) none).run Try.prog w = .ok (.slice A q c) w := by
  obtain ⟨i0, hi, hz0, hz1, hz2⟩ := info_parts info_byte
  exact run_upto Try.underlying22 hi hz1 A n c q hq k

/-- 's[p:]' -/
theorem wpl_cut {dst : Option Tmp} {x y : Operand} {ty : TypeId} {pos : String} {af : Array Edge} {gd : Option (Nat × Bool)}
    (hw : Region.wanted ⟨dst, .slice 22 x (some y) none none, ty, pos, af, gd⟩ (yielded ops a.tmps) = true)
    {n c B p : Nat} {k : IntKind} {A : Option Addr} {xs : List UInt8} (hx : a.eval x = .slice A n c) (hy : a.eval y = .int k (p : Int)) (hr : Rd w B A n xs) (hp : p ≤ n) (hnc : n ≤ c)
    (h : ∀ A1, Rd w B A1 (n - p) (xs.drop p) → wpList Try.prog ops Q rest (a.put dst (.slice A1 (n - p) (c - p))) w) :
    wpList Try.prog ops Q (⟨dst, .slice 22 x (some y) none none, ty, pos, af, gd⟩ :: rest) a w := by
  refine BigFrame.wpList_want hw fun K hK => ?_
  unfold Oper.wp execOp
  simp only [Sem.run_bind, Sem.run_pure, Result.andThen_ok, hx, hy, Option.map_some, Option.map_none, run_cutb A n c p hp k]
  exact hK _ _ (h _ (hr.cut hp hnc))
/-- 's[p:q]' -/
theorem wpl_cut2 {dst : Option Tmp} {x y z : Operand} {ty : TypeId} {pos : String} {af : Array Edge} {gd : Option (Nat × Bool)}
    (hw : Region.wanted ⟨dst, .slice 22 x (some y) (some z) none, ty, pos, af, gd⟩ (yielded ops a.tmps) = true)
    {n c B p q : Nat} {k k' : IntKind} {A : Option Addr} {xs : List UInt8} (hx : a.eval x = .slice A n c) (hy : a.eval y = .int k (p : Int)) (hz : a.eval z = .int k' (q : Int)) (hr : Rd w B A n xs) (hp : p ≤ q) (hq : q ≤ n) (hnc : n ≤ c)
    (h : ∀ A1, Rd w B A1 (q - p) ((xs.take q).drop p) → wpList Try.prog ops Q rest (a.put dst (.slice A1 (q - p) (c - p))) w) :
    wpList Try.prog ops Q (⟨dst, .slice 22 x (some y) (some z) none, ty, pos, af, gd⟩ :: rest) a w := by
  refine BigFrame.wpList_want hw fun K hK => ?_
  unfold Oper.wp execOp
  simp only [Sem.run_bind, Sem.run_pure, Result.andThen_ok, hx, hy, hz, Option.map_some, Option.map_none, run_cut2b A n c p q hp (show q ≤ c by omega) k k']
  exact hK _ _ (h _ ((hr.upto hq).cut hp (by omega)))
/-- 's[:q]' -/
theorem wpl_upto {dst : Option Tmp} {x z : Operand} {ty : TypeId} {pos : String} {af : Array Edge} {gd : Option (Nat × Bool)}
    (hw : Region.wanted ⟨dst, .slice 22 x none (some z) none, ty, pos, af, gd⟩ (yielded ops a.tmps) = true)
    {n c B q : Nat} {k' : IntKind} {A : Option Addr} {xs : List UInt8} (hx : a.eval x = .slice A n c) (hz : a.eval z = .int k' (q : Int)) (hr : Rd w B A n xs) (hq : q ≤ n) (hnc : n ≤ c)
    (h : Rd w B A q (xs.take q) → wpList Try.prog ops Q rest (a.put dst (.slice A q c)) w) :
    wpList Try.prog ops Q (⟨dst, .slice 22 x none (some z) none, ty, pos, af, gd⟩ :: rest) a w := by
  refine BigFrame.wpList_want hw fun K hK => ?_
  unfold Oper.wp execOp
  simp only [Sem.run_bind, Sem.run_pure, Result.andThen_ok, hx, hz, Option.map_some, Option.map_none, run_uptob A n c q (show q ≤ c by omega) k']
  exact hK _ _ (h (hr.upto hq))
end
end Go.Proofs.Ytodgnlhakafhoaa.Mem
