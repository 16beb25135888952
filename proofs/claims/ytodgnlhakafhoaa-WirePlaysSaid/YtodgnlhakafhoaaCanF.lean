/- A region that draws its order, walked by a plan: as Can, but where two makers come up side by side both ways are walked. No program is named here. -/
import Derived.Test.YtodgnlhakafhoaaCanM
namespace Go.Proofs.Ytodgnlhakafhoaa.Can
open Go.RowKit

inductive Plan where
  | nil
  | cons (i : Nat) (p : Plan)
  | fork (i : Nat) (p : Plan) (j : Nat) (q : Plan)
def Plan.of : List Nat → Plan → Plan
  | [], p => p
  | i :: l, p => .cons i (Plan.of l p)
def Plan.deep : Plan → Nat
  | .nil => 0
  | .cons _ p => p.deep + 1
  | .fork _ p _ q => max p.deep q.deep + 1

section
variable {P : Program} {ops : Array Oper} {Q : Exit → Act → World → Prop} {mk : List Nat}

def planOk (ops : Array Oper) (mk : List Nat) : Plan → Array Bool → Bool
  | .nil, listed => (Region.ready .any ops listed).isEmpty
  | .cons i p, listed =>
    (if mk.contains i then Region.ready .any ops listed == [i] else Region.free .any ops listed i && (Region.ready .any ops listed).contains i) && planOk ops mk p (listed.setIfInBounds i true)
  | .fork i p j q, listed =>
    Region.ready .any ops listed == [i, j] && planOk ops mk p (listed.setIfInBounds i true) && planOk ops mk q (listed.setIfInBounds j true)

def PWalk (P : Program) (ops : Array Oper) (Q : Exit → Act → World → Prop) (mk : List Nat) : Plan → Nat → Act → World → Prop
  | .nil, _, a, w => Q .normal a w
  | .cons i p, T, a, w => ∃ o, ops[i]? = some o ∧ ∃ T', T ≤ T' ∧
      if mk.contains i then wpOp P ops Q i (fun a' w' => Below T' w w' ∧ PWalk P ops Q mk p T' a' w') a w
      else ∃ v, YieldsIf P ops (Below T' w) o v a ∧ PWalk P ops Q mk p T' (a.put o.dst v) w
  | .fork i p j q, T, a, w => ∃ T', T ≤ T' ∧ wpOp P ops Q i (fun a' w' => Below T' w w' ∧ PWalk P ops Q mk p T' a' w') a w ∧ wpOp P ops Q j (fun a' w' => Below T' w w' ∧ PWalk P ops Q mk q T' a' w') a w

theorem pwalk_held (hs : Region.noSelect ops = true) (hQ : ∀ c (a : Act) d v w, Q (.panic c) (a.put d v) w → Q (.panic c) a w) :
    ∀ (σ : Plan) (fuel T : Nat) (listed : Array Bool) (a : Act) (w : World), σ.deep ≤ fuel → planOk ops mk σ listed = true → PWalk P ops Q mk σ T a w → wpAnyH P .any ops Q (Below T w) fuel listed a w
  | .nil, fuel, T, listed, a, w, _, hc, h => wpAnyH_done (by simpa [planOk] using hc) h fuel
  | .cons i σ, fuel, T, listed, a, w, hf, hc, h => by
    obtain ⟨fuel, rfl⟩ : ∃ k, fuel = k + 1 := ⟨fuel - 1, by simp [Plan.deep] at hf; omega⟩
    simp only [Plan.deep, Nat.add_le_add_iff_right] at hf
    obtain ⟨o, hi, T', hT, hh⟩ := h
    simp only [planOk, Bool.and_eq_true] at hc
    obtain ⟨hc1, hc2⟩ := hc
    refine held_mono (S' := Below T' w) (fun w' hb => hb.mono hT) _ _ _ _ ?_
    by_cases hm : mk.contains i = true
    · rw [if_pos hm] at hc1 hh
      have hr : Region.ready .any ops listed = [i] := by simpa using hc1
      refine wpAnyH_all hr (by simp) fun j hj => ?_
      obtain rfl : j = i := by simpa using hj
      refine wpOp_mono (fun a' w' h' => ⟨h'.1, ?_⟩) hh
      exact held_mono (fun x hx => h'.1.trans hx) _ _ _ _ (pwalk_held hs hQ σ fuel T' _ a' w' hf hc2 h'.2)
    · rw [if_neg hm] at hc1 hh
      simp only [Bool.and_eq_true] at hc1
      obtain ⟨v, hy, hw⟩ := hh
      exact wpAnyH_take hi hs hc1.1 hc1.2 (fun c a w => hQ c a _ v w) hy (Below.refl _ _) (pwalk_held hs hQ σ fuel T' _ _ w hf hc2 hw)
  | .fork i p j q, fuel, T, listed, a, w, hf, hc, h => by
    obtain ⟨fuel, rfl⟩ : ∃ k, fuel = k + 1 := ⟨fuel - 1, by simp [Plan.deep] at hf; omega⟩
    simp only [Plan.deep, Nat.add_le_add_iff_right] at hf
    obtain ⟨T', hT, h1, h2⟩ := h
    simp only [planOk, Bool.and_eq_true] at hc
    obtain ⟨⟨hc0, hc1⟩, hc2⟩ := hc
    refine held_mono (S' := Below T' w) (fun w' hb => hb.mono hT) _ _ _ _ ?_
    have hr : Region.ready .any ops listed = [i, j] := by simpa using hc0
    refine wpAnyH_all hr (by simp) fun k hk => ?_
    have hk' : k = i ∨ k = j := by simpa using hk
    rcases hk' with rfl | rfl
    · refine wpOp_mono (fun a' w' h' => ⟨h'.1, ?_⟩) h1
      exact held_mono (fun x hx => h'.1.trans hx) _ _ _ _ (pwalk_held hs hQ p fuel T' _ a' w' (by omega) hc1 h'.2)
    · refine wpOp_mono (fun a' w' h' => ⟨h'.1, ?_⟩) h2
      exact held_mono (fun x hx => h'.1.trans hx) _ _ _ _ (pwalk_held hs hQ q fuel T' _ a' w' (by omega) hc2 h'.2)

/-- THE BEGINNING. -/
theorem region_plan {id : Nat} {a : Act} {w : World} (σ : Plan) (mk : List Nat) (hm : P.follows .mixedOrders = true) (hs : Region.noSelect ops = true) (hl : σ.deep ≤ ops.size)
    (hc : planOk ops mk σ (Array.replicate ops.size false) = true) (hQ : ∀ c (a : Act) d v w, Q (.panic c) (a.put d v) w → Q (.panic c) a w)
    (h : ∀ wd : World, Below w.heap.size w wd → wd.heap.size = w.heap.size → PWalk P ops Q mk σ 0 a wd) : (Code.region id ops true).wp P Q a w :=
  wp_region_held (S := Below 0 w.drew) hm (pwalk_held hs hQ σ _ 0 _ a _ hl hc (h w.drew (Below.refl _ _).drew rfl))

/-- a plan that forks no more -/
theorem plan_line : ∀ (σ : List Nat) (T : Nat) (a : Act) (w : World), Walk P ops Q mk σ T a w → PWalk P ops Q mk (Plan.of σ .nil) T a w
  | [], _, _, _, h => h
  | i :: σ, T, a, w, h => by
    obtain ⟨o, hi, T', hT, hh⟩ := h
    refine ⟨o, hi, T', hT, ?_⟩
    by_cases hm : mk.contains i = true
    · rw [if_pos hm] at hh ⊢
      exact wpOp_mono (fun a' w' h' => ⟨h'.1, plan_line σ T' a' w' h'.2⟩) hh
    · rw [if_neg hm] at hh ⊢
      obtain ⟨v, hy, hw⟩ := hh
      exact ⟨v, hy, plan_line σ T' _ w hw⟩
theorem wpOp_make {i : Nat} {a : Act} {w : World} {K : Act → World → Prop} {dst : Option Tmp} {op : Op} {ty : TypeId} {pos : String} {af : Array Edge} {gd : Option (Nat × Bool)} (hi : ops[i]? = some ⟨dst, op, ty, pos, af, gd⟩)
    (h : ∀ Q' : Exit → Act → World → Prop, (∀ a' w', K a' w' → Q' .normal a' w') → wpList P ops Q' [⟨dst, op, ty, pos, af, gd⟩] a w) : wpOp P ops Q i K a w := by
  have hh := h (fun e a' w' => e = .normal ∧ K a' w') (fun a' w' h1 => ⟨rfl, h1⟩)
  have hp : ∀ c (a' : Act) (w' : World), ¬ ((Exit.panic c) = .normal ∧ K a' w') := fun c a' w' hx => by cases hx.1
  have ho : ¬ LetsOut (fun e a' w' => e = Exit.normal ∧ K a' w') := fun ⟨a', w', hx⟩ => by cases hx.1
  unfold wpOp
  simp only [hi]
  unfold wpList at hh
  by_cases hw : Region.wanted ⟨dst, op, ty, pos, af, gd⟩ (yielded ops a.tmps) = true
  · rw [if_pos hw] at hh ⊢
    rcases hh with hh | ⟨_, hl⟩
    · exact .inl (wp_both (fun a' w' hx => hx.2) hp ho hh)
    · exact (ho hl).elim
  · rw [if_neg hw] at hh ⊢
    exact hh.2
theorem pan_fork {i j : Nat} {p q : Plan} {T : Nat} {a : Act} {w : World} {dst dst2 : Option Tmp} {op op2 : Op} {ty ty2 : TypeId} {pos pos2 : String} {af af2 : Array Edge} {gd gd2 : Option (Nat × Bool)}
    (hi : ops[i]? = some ⟨dst, op, ty, pos, af, gd⟩) (hj : ops[j]? = some ⟨dst2, op2, ty2, pos2, af2, gd2⟩) (T' : Nat) (hT : T ≤ T')
    (h1 : ∀ Q' : Exit → Act → World → Prop, (∀ a' w', Below T' w w' → PWalk P ops Q mk p T' a' w' → Q' .normal a' w') → wpList P ops Q' [⟨dst, op, ty, pos, af, gd⟩] a w)
    (h2 : ∀ Q' : Exit → Act → World → Prop, (∀ a' w', Below T' w w' → PWalk P ops Q mk q T' a' w' → Q' .normal a' w') → wpList P ops Q' [⟨dst2, op2, ty2, pos2, af2, gd2⟩] a w) : PWalk P ops Q mk (.fork i p j q) T a w :=
  ⟨T', hT, wpOp_make hi (fun Q' hQ' => h1 Q' (fun a' w' hb hp => hQ' a' w' ⟨hb, hp⟩)), wpOp_make hj (fun Q' hQ' => h2 Q' (fun a' w' hb hp => hQ' a' w' ⟨hb, hp⟩))⟩
theorem pan_pure {i : Nat} {σ : Plan} {T : Nat} {a : Act} {w : World} {dst : Option Tmp} {op : Op} {ty : TypeId} {pos : String} {af : Array Edge} {gd : Option (Nat × Bool)} (hm : mk.contains i = false) (hi : ops[i]? = some ⟨dst, op, ty, pos, af, gd⟩) (hw : Region.wanted ⟨dst, op, ty, pos, af, gd⟩ (yielded ops a.tmps) = true) {v : Value}
    (hy : ∀ w', (execOp a.eval ⟨dst, op, ty, pos, af, gd⟩).run P w' = .ok (.value v) w') (h : PWalk P ops Q mk σ T (a.put dst v) w) : PWalk P ops Q mk (.cons i σ) T a w :=
  ⟨_, hi, T, Nat.le_refl _, by rw [hm, if_neg (by simp)]; exact ⟨v, Or.inl ⟨hw, fun w' _ => hy w'⟩, h⟩⟩
theorem pan_read {i : Nat} {σ : Plan} {T : Nat} {a : Act} {w : World} {dst : Option Tmp} {op : Op} {ty : TypeId} {pos : String} {af : Array Edge} {gd : Option (Nat × Bool)} (hm : mk.contains i = false) (hi : ops[i]? = some ⟨dst, op, ty, pos, af, gd⟩) (hw : Region.wanted ⟨dst, op, ty, pos, af, gd⟩ (yielded ops a.tmps) = true) (T' : Nat) (hT : T ≤ T') (v : Value)
    (hy : ∀ w', Below T' w w' → (execOp a.eval ⟨dst, op, ty, pos, af, gd⟩).run P w' = .ok (.value v) w') (h : PWalk P ops Q mk σ T' (a.put dst v) w) : PWalk P ops Q mk (.cons i σ) T a w :=
  ⟨_, hi, T', hT, by rw [hm, if_neg (by simp)]; exact ⟨v, Or.inl ⟨hw, hy⟩, h⟩⟩
end
end Go.Proofs.Ytodgnlhakafhoaa.Can
