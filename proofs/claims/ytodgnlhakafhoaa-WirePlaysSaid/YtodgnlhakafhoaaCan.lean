/- A region that draws its order, walked in one order: what only reads is taken as soon as it may come up, and yields the same in every later world that keeps the memory below a threshold; what makes memory comes up alone, and keeps the memory below the threshold. No program is named here. -/
import Derived.WalkKit
import Derived.OrdersHeld
import Derived.Below
namespace Go.Proofs.Ytodgnlhakafhoaa.Can
open Go.RowKit

section
variable {P : Program} {ops : Array Oper} {Q : Exit → Act → World → Prop} {mk : List Nat}

/-- The order σ fits the region: the makers 'mk' come up alone, all others are free and ready in their turn. -/
def canOk (ops : Array Oper) (mk : List Nat) : List Nat → Array Bool → Bool
  | [], listed => (Region.ready .any ops listed).isEmpty
  | i :: σ, listed =>
    (if mk.contains i then Region.ready .any ops listed == [i] else Region.free .any ops listed i && (Region.ready .any ops listed).contains i) && canOk ops mk σ (listed.setIfInBounds i true)

/-- The walk in the order σ, from a world on, T the threshold. -/
def Walk (P : Program) (ops : Array Oper) (Q : Exit → Act → World → Prop) (mk : List Nat) : List Nat → Nat → Act → World → Prop
  | [], _, a, w => Q .normal a w
  | i :: σ, T, a, w => ∃ o, ops[i]? = some o ∧ ∃ T', T ≤ T' ∧
      if mk.contains i then wpOp P ops Q i (fun a' w' => Below T' w w' ∧ Walk P ops Q mk σ T' a' w') a w
      else ∃ v, YieldsIf P ops (Below T' w) o v a ∧ Walk P ops Q mk σ T' (a.put o.dst v) w

theorem held_mono {S S' : World → Prop} (h : ∀ w, S' w → S w) : ∀ (fuel : Nat) (listed : Array Bool) (a : Act) (w : World), wpAnyH P .any ops Q S' fuel listed a w → wpAnyH P .any ops Q S fuel listed a w
  | 0, _, _, _, hh => hh
  | fuel + 1, _, _, _, hh => ⟨hh.1, fun i hi => wpOp_mono (fun a' w' h' => ⟨h _ h'.1, held_mono h fuel _ a' w' h'.2⟩) (hh.2 i hi)⟩

theorem walk_held (hs : Region.noSelect ops = true) (hQ : ∀ c (a : Act) d v w, Q (.panic c) (a.put d v) w → Q (.panic c) a w) :
    ∀ (σ : List Nat) (fuel T : Nat) (listed : Array Bool) (a : Act) (w : World), σ.length ≤ fuel → canOk ops mk σ listed = true → Walk P ops Q mk σ T a w → wpAnyH P .any ops Q (Below T w) fuel listed a w
  | [], fuel, T, listed, a, w, _, hc, h => wpAnyH_done (by simpa [canOk] using hc) h fuel
  | i :: σ, fuel, T, listed, a, w, hf, hc, h => by
    obtain ⟨fuel, rfl⟩ : ∃ k, fuel = k + 1 := ⟨fuel - 1, by simp at hf; omega⟩
    simp only [List.length_cons, Nat.add_le_add_iff_right] at hf
    obtain ⟨o, hi, T', hT, hh⟩ := h
    simp only [canOk, Bool.and_eq_true] at hc
    obtain ⟨hc1, hc2⟩ := hc
    refine held_mono (S' := Below T' w) (fun w' hb => hb.mono hT) _ _ _ _ ?_
    by_cases hm : mk.contains i = true
    · rw [if_pos hm] at hc1 hh
      have hr : Region.ready .any ops listed = [i] := by simpa using hc1
      refine wpAnyH_all hr (by simp) fun j hj => ?_
      obtain rfl : j = i := by simpa using hj
      refine wpOp_mono (fun a' w' h' => ⟨h'.1, ?_⟩) hh
      exact held_mono (fun x hx => h'.1.trans hx) _ _ _ _ (walk_held hs hQ σ fuel T' _ a' w' hf hc2 h'.2)
    · rw [if_neg hm] at hc1 hh
      simp only [Bool.and_eq_true] at hc1
      obtain ⟨v, hy, hw⟩ := hh
      exact wpAnyH_take hi hs hc1.1 hc1.2 (fun c a w => hQ c a _ v w) hy (Below.refl _ _) (walk_held hs hQ σ fuel T' _ _ w hf hc2 hw)

/-- THE BEGINNING. -/
theorem region_can {id : Nat} {a : Act} {w : World} (σ mk : List Nat) (hm : P.follows .mixedOrders = true) (hs : Region.noSelect ops = true) (hl : σ.length ≤ ops.size)
    (hc : canOk ops mk σ (Array.replicate ops.size false) = true) (hQ : ∀ c (a : Act) d v w, Q (.panic c) (a.put d v) w → Q (.panic c) a w)
    (h : ∀ wd : World, Below w.heap.size w wd → wd.heap.size = w.heap.size → Walk P ops Q mk σ 0 a wd) : (Code.region id ops true).wp P Q a w :=
  wp_region_held (S := Below 0 w.drew) hm (walk_held hs hQ σ _ 0 _ a _ hl hc (h w.drew (Below.refl _ _).drew rfl))

theorem can_done {T : Nat} {a : Act} {w : World} (h : Q .normal a w) : Walk P ops Q mk [] T a w := h

/-- An operation whose guard says no. -/
theorem can_skip {i : Nat} {σ : List Nat} {T : Nat} {a : Act} {w : World} {dst : Option Tmp} {op : Op} {ty : TypeId} {pos : String} {af : Array Edge} {gd : Option (Nat × Bool)} (hm : mk.contains i = false) (hi : ops[i]? = some ⟨dst, op, ty, pos, af, gd⟩) (hw : Region.wanted ⟨dst, op, ty, pos, af, gd⟩ (yielded ops a.tmps) = false)
    (h : Walk P ops Q mk σ T (a.put dst undef) w) : Walk P ops Q mk (i :: σ) T a w :=
  ⟨_, hi, T, Nat.le_refl _, by rw [hm, if_neg (by simp)]; exact ⟨undef, Or.inr ⟨hw, rfl⟩, h⟩⟩
theorem can_skip_mk {i : Nat} {σ : List Nat} {T : Nat} {a : Act} {w : World} {dst : Option Tmp} {op : Op} {ty : TypeId} {pos : String} {af : Array Edge} {gd : Option (Nat × Bool)} (hm : mk.contains i = true) (hi : ops[i]? = some ⟨dst, op, ty, pos, af, gd⟩) (hw : Region.wanted ⟨dst, op, ty, pos, af, gd⟩ (yielded ops a.tmps) = false)
    (h : Walk P ops Q mk σ T (a.put dst undef) w) : Walk P ops Q mk (i :: σ) T a w :=
  ⟨_, hi, T, Nat.le_refl _, by
    rw [hm, if_pos rfl]
    unfold wpOp
    simp only [hi, hw]
    exact ⟨Below.refl _ _, h⟩⟩

/-- An operation that yields its value in whatever world. -/
theorem can_pure {i : Nat} {σ : List Nat} {T : Nat} {a : Act} {w : World} {dst : Option Tmp} {op : Op} {ty : TypeId} {pos : String} {af : Array Edge} {gd : Option (Nat × Bool)} (hm : mk.contains i = false) (hi : ops[i]? = some ⟨dst, op, ty, pos, af, gd⟩) (hw : Region.wanted ⟨dst, op, ty, pos, af, gd⟩ (yielded ops a.tmps) = true) {v : Value}
    (hy : ∀ w', (execOp a.eval ⟨dst, op, ty, pos, af, gd⟩).run P w' = .ok (.value v) w') (h : Walk P ops Q mk σ T (a.put dst v) w) : Walk P ops Q mk (i :: σ) T a w :=
  ⟨_, hi, T, Nat.le_refl _, by rw [hm, if_neg (by simp)]; exact ⟨v, Or.inl ⟨hw, fun w' _ => hy w'⟩, h⟩⟩
theorem can_move {i : Nat} {σ : List Nat} {T : Nat} {a : Act} {w : World} {dst : Option Tmp} {x : Operand} {ty : TypeId} {pos : String} {af : Array Edge} {gd : Option (Nat × Bool)}
    (hm : mk.contains i = false) (hi : ops[i]? = some ⟨dst, .move x, ty, pos, af, gd⟩) (hw : Region.wanted ⟨dst, .move x, ty, pos, af, gd⟩ (yielded ops a.tmps) = true)
    (h : Walk P ops Q mk σ T (a.put dst (a.eval x)) w) : Walk P ops Q mk (i :: σ) T a w :=
  can_pure hm hi hw (fun _ => rfl) h
theorem can_assign {i : Nat} {σ : List Nat} {T : Nat} {a : Act} {w : World} {dst : Option Tmp} {x : Operand} {ty : TypeId} {pos : String} {af : Array Edge} {gd : Option (Nat × Bool)}
    (hm : mk.contains i = false) (hi : ops[i]? = some ⟨dst, .assign x, ty, pos, af, gd⟩) (hw : Region.wanted ⟨dst, .assign x, ty, pos, af, gd⟩ (yielded ops a.tmps) = true)
    (h : Walk P ops Q mk σ T (a.put dst (a.eval x)) w) : Walk P ops Q mk (i :: σ) T a w :=
  can_pure hm hi hw (fun _ => rfl) h

/-- An operation that reads memory: it yields its value in every later world that keeps the memory below T'. -/
theorem can_read {i : Nat} {σ : List Nat} {T : Nat} {a : Act} {w : World} {dst : Option Tmp} {op : Op} {ty : TypeId} {pos : String} {af : Array Edge} {gd : Option (Nat × Bool)} (hm : mk.contains i = false) (hi : ops[i]? = some ⟨dst, op, ty, pos, af, gd⟩) (hw : Region.wanted ⟨dst, op, ty, pos, af, gd⟩ (yielded ops a.tmps) = true) (T' : Nat) (hT : T ≤ T') (v : Value)
    (hy : ∀ w', Below T' w w' → (execOp a.eval ⟨dst, op, ty, pos, af, gd⟩).run P w' = .ok (.value v) w') (h : Walk P ops Q mk σ T' (a.put dst v) w) : Walk P ops Q mk (i :: σ) T a w :=
  ⟨_, hi, T', hT, by rw [hm, if_neg (by simp)]; exact ⟨v, Or.inl ⟨hw, hy⟩, h⟩⟩

theorem wp_both {o : Oper} {a : Act} {w : World} {K K' : Act → World → Prop} {Q' : Exit → Act → World → Prop} (h : ∀ a w, K a w → K' a w) (hp : ∀ c a w, ¬ Q' (.panic c) a w) (ho : ¬ LetsOut Q') (hh : o.wp P a w K Q') : o.wp P a w K' Q := by
  unfold Oper.wp at *
  generalize (execOp a.eval o).run P w = r at *
  cases r with
  | ok n w' =>
    cases n <;> simp only [Oper.upon] at hh ⊢ <;>
      first
        | exact h _ _ hh
        | exact Calls.mono hh (fun e w'' he => by cases e <;> first | exact h _ _ he | exact (hp _ _ _ he).elim | exact (ho he).elim)
        | exact Rows.mono hh (fun _ _ he => h _ _ he)
  | halt x w' => cases x <;> simp only [Oper.upon] at hh ⊢ <;> exact (hp _ _ _ hh).elim

/-- An operation that makes memory, or a call: walked as a list of one. -/
theorem can_make {i : Nat} {σ : List Nat} {T : Nat} {a : Act} {w : World} {dst : Option Tmp} {op : Op} {ty : TypeId} {pos : String} {af : Array Edge} {gd : Option (Nat × Bool)} (hm : mk.contains i = true) (hi : ops[i]? = some ⟨dst, op, ty, pos, af, gd⟩) (T' : Nat) (hT : T ≤ T')
    (h : ∀ Q' : Exit → Act → World → Prop, (∀ a' w', Below T' w w' → Walk P ops Q mk σ T' a' w' → Q' .normal a' w') → wpList P ops Q' [⟨dst, op, ty, pos, af, gd⟩] a w) : Walk P ops Q mk (i :: σ) T a w := by
  refine ⟨_, hi, T', hT, ?_⟩
  rw [hm, if_pos rfl]
  have hh := h (fun e a' w' => e = .normal ∧ Below T' w w' ∧ Walk P ops Q mk σ T' a' w') (fun a' w' h1 h2 => ⟨rfl, h1, h2⟩)
  have hp : ∀ c (a' : Act) (w' : World), ¬ ((Exit.panic c) = .normal ∧ Below T' w w' ∧ Walk P ops Q mk σ T' a' w') := fun c a' w' hx => by cases hx.1
  have ho : ¬ LetsOut (fun e a' w' => e = Exit.normal ∧ Below T' w w' ∧ Walk P ops Q mk σ T' a' w') := fun ⟨a', w', hx⟩ => by cases hx.1
  unfold wpOp
  simp only [hi]
  unfold wpList at hh
  by_cases hw : Region.wanted ⟨dst, op, ty, pos, af, gd⟩ (yielded ops a.tmps) = true
  · rw [if_pos hw] at hh ⊢
    rcases hh with hh | ⟨_, hl⟩
    · exact .inl (wp_both (fun a' w' hx => hx.2) hp ho hh)
    · exact (ho hl).elim
  · rw [if_neg hw] at hh ⊢
    exact hh.2

/-! ### strings -/
theorem exec_cat {dst : Option Tmp} {x y : Operand} {t t' ty : TypeId} {pos : String} {af : Array Edge} {gd : Option (Nat × Bool)} {a : Act} {l m : List UInt8} (hx : a.eval x = .string ⟨l.toArray⟩) (hy : a.eval y = .string ⟨m.toArray⟩)
    (hs : l.length + m.length ≤ 9223372036854775807) (w : World) : (execOp a.eval ⟨dst, .binOp .add t x y t', ty, pos, af, gd⟩).run P w = .ok (.value (.string ⟨(l ++ m).toArray⟩)) w := by
  have e : (⟨l.toArray⟩ : ByteArray) ++ ⟨m.toArray⟩ = ⟨(l ++ m).toArray⟩ := by apply ByteArray.ext; simp
  have hr := run_string_add_sum (P := P) (w := w) (⟨l.toArray⟩ : ByteArray) ⟨m.toArray⟩ (by simpa [ByteArray.size] using hs)
  rw [e] at hr
  unfold execOp
  simp [hx, hy, eqGuard, binOp_string_add, hr, Result.andThen]
theorem exec_seq {dst : Option Tmp} {x y : Operand} {t t' ty : TypeId} {pos : String} {af : Array Edge} {gd : Option (Nat × Bool)} {a : Act} {s : ByteArray} (hx : a.eval x = .string s) (hy : a.eval y = .string s)
    (w : World) : (execOp a.eval ⟨dst, .binOp .eql t x y t', ty, pos, af, gd⟩).run P w = .ok (.value (.bool true)) w := by
  unfold execOp
  simp [hx, hy, eqGuard, binOp_string_eql]
end
end Go.Proofs.Ytodgnlhakafhoaa.Can
