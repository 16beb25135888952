/- Memory that stays but for one block; regions that draw their order, where a call may write that block. Printed by wip/offgen.py. -/
import Derived.Test.YtodgnlhakafhoaaCanF
import Derived.Test.YtodgnlhakafhoaaWirK
namespace Go.Proofs.Ytodgnlhakafhoaa.Wr
open Go.RowKit
open Num Mem
theorem wrap_i64 {n : Int} (h1 : -9223372036854775808 ≤ n) (h2 : n ≤ 9223372036854775807) : IntKind.i64.wrap n = n := by
  simp [IntKind.wrap, IntKind.bits, IntKind.signed]; omega
/-- below block B the world w' is as w was, but for block g -/
structure Off (g B : Nat) (w w' : World) : Prop where
  env : w'.os = w.os ∧ w'.tape = w.tape ∧ w'.output = w.output
  size : w.heap.size ≤ w'.heap.size
  block : ∀ k, k < B → k ≠ g → w'.heap[k]? = w.heap[k]?
section
variable {g B B' : Nat} {a b w w' : World}
theorem Off.refl (g B : Nat) (w : World) : Off g B w w := ⟨⟨rfl, rfl, rfl⟩, Nat.le_refl _, fun _ _ _ => rfl⟩
theorem Off.trans (h : Off g B a b) (k : Off g B b w) : Off g B a w :=
  ⟨⟨k.env.1.trans h.env.1, k.env.2.1.trans h.env.2.1, k.env.2.2.trans h.env.2.2⟩, Nat.le_trans h.size k.size, fun i hi hg => (k.block i hi hg).trans (h.block i hi hg)⟩
theorem Off.mono (h : Off g B w w') (hB : B' ≤ B) : Off g B' w w' := ⟨h.env, h.size, fun k hk hg => h.block k (Nat.lt_of_lt_of_le hk hB) hg⟩
theorem Off.of (h : Below B w w') : Off g B w w' := ⟨⟨h.os, h.tape, h.output⟩, h.size, fun k hk _ => h.block k hk⟩
theorem Off.below (h : Off g B w w') (hB : B' ≤ B) (hg : B' ≤ g) : Below B' w w' := ⟨h.env.1, h.env.2.1, h.env.2.2, h.size, fun k hk => h.block k (by omega) (by omega)⟩
theorem Off.thn (h : Off g B a b) (hB : B ≤ b.heap.size) (k : Off g b.heap.size b w) : Off g B a w := h.trans (k.mono hB)
theorem Off.cell (h : Off g B w w') {p : Addr} (hp : p.block < B) (hg : p.block ≠ g) : w'.cell? p = w.cell? p := World.cell?_of_block (w := w) (h.block p.block hp hg)
theorem Off.frozen (h : Off g B w w') {p : Addr} (hp : p.block < B) (hg : p.block ≠ g) : w'.frozen? p = w.frozen? p := World.frozen?_of_block (w := w) (h.block p.block hp hg)
theorem Off.drew (h : Off g B a w) : Off g B a w.drew := ⟨h.env, h.size, h.block⟩
theorem Off.alloc (h : Off g B a w) (hB : B ≤ w.heap.size) (o : Obj) : Off g B a (w.alloc o) := h.trans (Off.of ((Below.refl B w).alloc hB o))
theorem Off.setAt (h : Off g B a w) (i : Nat) (u : Value) : Off g B a (w.setCell ⟨g, i, none⟩ u) :=
  h.trans ⟨⟨rfl, rfl, rfl⟩, by simp [World.setCell], fun k _ hg => Below.heap_setCell w ⟨g, i, none⟩ u k hg⟩
theorem Off.setNew (h : Off g B a w) {p : Addr} (hp : B ≤ p.block) (u : Value) : Off g B a (w.setCell p u) := h.trans (Off.of ((Below.refl B w).setCell hp u))
theorem _root_.Go.Proofs.Ytodgnlhakafhoaa.Mem.Rd.off {n : Nat} {A : Option Addr} {xs : List UInt8} (h : Rd w B A n xs) (ho : Off g B' w w') (hB : B ≤ B') (hg : B ≤ g) : Rd w' B A n xs := h.keep fun _ _ => ho.cell (by omega) (by omega)
theorem Bxr.off {f : Nat} {A : Option Addr} {n c : Nat} {x e : Int} (h : Bxr w f A n c x e) (ho : Off g B w w') (hf : f < B) (hg : f ≠ g) : Bxr w' f A n c x e :=
  ⟨⟨(ho.cell hf hg).trans h.1.1, (ho.cell hf hg).trans h.1.2.1, (ho.cell hf hg).trans h.1.2.2⟩, (ho.frozen hf hg).trans h.2.1, (ho.frozen hf hg).trans h.2.2.1, (ho.frozen hf hg).trans h.2.2.2⟩
theorem _root_.Go.Proofs.Ytodgnlhakafhoaa.Mem.Rd.offOther {n : Nat} {A : Option Addr} {xs : List UInt8} (h : Rd w B A n xs) (ho : Off g B' w w') (hB : B ≤ B') (hF : 0 < n → ∀ ad, A = some ad → ad.block ≠ g) : Rd w' B A n xs := by
  refine ⟨h.1, fun hn => ?_⟩
  obtain ⟨b, o, hA, hb, hc⟩ := h.2 hn
  have hne := hF hn _ hA
  exact ⟨b, o, hA, hb, fun j x hx => (ho.cell (p := ⟨b, o + j, none⟩) (by simp only; omega) hne).trans (hc j x hx)⟩
end
/-- .. but for the blocks that X names -/
structure OffX (X : Nat → Prop) (B : Nat) (w w' : World) : Prop where
  env : w'.os = w.os ∧ w'.tape = w.tape ∧ w'.output = w.output
  size : w.heap.size ≤ w'.heap.size
  block : ∀ k, k < B → ¬ X k → w'.heap[k]? = w.heap[k]?
section
variable {X : Nat → Prop} {g B B' : Nat} {a b w w' : World}
theorem OffX.refl (X : Nat → Prop) (B : Nat) (w : World) : OffX X B w w := ⟨⟨rfl, rfl, rfl⟩, Nat.le_refl _, fun _ _ _ => rfl⟩
theorem OffX.trans (h : OffX X B a b) (k : OffX X B b w) : OffX X B a w :=
  ⟨⟨k.env.1.trans h.env.1, k.env.2.1.trans h.env.2.1, k.env.2.2.trans h.env.2.2⟩, Nat.le_trans h.size k.size, fun i hi hg => (k.block i hi hg).trans (h.block i hi hg)⟩
theorem OffX.mono (h : OffX X B w w') (hB : B' ≤ B) : OffX X B' w w' := ⟨h.env, h.size, fun k hk hg => h.block k (Nat.lt_of_lt_of_le hk hB) hg⟩
theorem OffX.of (h : Below B w w') : OffX X B w w' := ⟨⟨h.os, h.tape, h.output⟩, h.size, fun k hk _ => h.block k hk⟩
theorem OffX.off (h : Off g B w w') (hX : X g) : OffX X B w w' := ⟨h.env, h.size, fun k hk hg => h.block k hk (fun e => hg (e ▸ hX))⟩
theorem OffX.cell (h : OffX X B w w') {p : Addr} (hp : p.block < B) (hg : ¬ X p.block) : w'.cell? p = w.cell? p := World.cell?_of_block (w := w) (h.block p.block hp hg)
theorem OffX.frozen (h : OffX X B w w') {p : Addr} (hp : p.block < B) (hg : ¬ X p.block) : w'.frozen? p = w.frozen? p := World.frozen?_of_block (w := w) (h.block p.block hp hg)
theorem OffX.setAt (h : OffX X B a w) (hX : X g) (i : Nat) (u : Value) : OffX X B a (w.setCell ⟨g, i, none⟩ u) :=
  h.trans ⟨⟨rfl, rfl, rfl⟩, by simp [World.setCell], fun k _ hg => Below.heap_setCell w ⟨g, i, none⟩ u k (fun e => hg (e ▸ hX))⟩
theorem Bxr.offX {f : Nat} {A : Option Addr} {n c : Nat} {x e : Int} (h : Bxr w f A n c x e) (ho : OffX X B w w') (hf : f < B) (hg : ¬ X f) : Bxr w' f A n c x e :=
  ⟨⟨(ho.cell hf hg).trans h.1.1, (ho.cell hf hg).trans h.1.2.1, (ho.cell hf hg).trans h.1.2.2⟩, (ho.frozen hf hg).trans h.2.1, (ho.frozen hf hg).trans h.2.2.1, (ho.frozen hf hg).trans h.2.2.2⟩
theorem _root_.Go.Proofs.Ytodgnlhakafhoaa.Mem.Rd.offX {n : Nat} {A : Option Addr} {xs : List UInt8} (h : Rd w B A n xs) (ho : OffX X B' w w') (hB : B ≤ B') (hF : 0 < n → ∀ ad, A = some ad → ¬ X ad.block) : Rd w' B A n xs := by
  refine ⟨h.1, fun hn => ?_⟩
  obtain ⟨b, o, hA, hb, hc⟩ := h.2 hn
  have hne := hF hn _ hA
  exact ⟨b, o, hA, hb, fun j x hx => (ho.cell (p := ⟨b, o + j, none⟩) (by simp only; omega) hne).trans (hc j x hx)⟩
end
end Go.Proofs.Ytodgnlhakafhoaa.Wr
namespace Go.Proofs.Ytodgnlhakafhoaa.Can
open Go.RowKit
open Num Mem Wr
section
variable {P : Program} {ops : Array Oper} {Q : Exit → Act → World → Prop} {mk : List Nat} {X : Nat → Prop}
def OWalk (P : Program) (ops : Array Oper) (Q : Exit → Act → World → Prop) (mk : List Nat) (X : Nat → Prop) : Plan → Nat → Act → World → Prop
  | .nil, _, a, w => Q .normal a w
  | .cons i p, T, a, w => ∃ o, ops[i]? = some o ∧ ∃ T', T ≤ T' ∧
      if mk.contains i then wpOp P ops Q i (fun a' w' => OffX X T' w w' ∧ OWalk P ops Q mk X p T' a' w') a w
      else ∃ v, YieldsIf P ops (OffX X T' w) o v a ∧ OWalk P ops Q mk X p T' (a.put o.dst v) w
  | .fork i p j q, T, a, w => ∃ T', T ≤ T' ∧ wpOp P ops Q i (fun a' w' => OffX X T' w w' ∧ OWalk P ops Q mk X p T' a' w') a w ∧ wpOp P ops Q j (fun a' w' => OffX X T' w w' ∧ OWalk P ops Q mk X q T' a' w') a w

theorem owalk_held (hs : Region.noSelect ops = true) (hQ : ∀ c (a : Act) d v w, Q (.panic c) (a.put d v) w → Q (.panic c) a w) :
    ∀ (σ : Plan) (fuel T : Nat) (listed : Array Bool) (a : Act) (w : World), σ.deep ≤ fuel → planOk ops mk σ listed = true → OWalk P ops Q mk X σ T a w → wpAnyH P .any ops Q (OffX X T w) fuel listed a w
  | .nil, fuel, T, listed, a, w, _, hc, h => wpAnyH_done (by simpa [planOk] using hc) h fuel
  | .cons i σ, fuel, T, listed, a, w, hf, hc, h => by
    obtain ⟨fuel, rfl⟩ : ∃ k, fuel = k + 1 := ⟨fuel - 1, by simp [Plan.deep] at hf; omega⟩
    simp only [Plan.deep, Nat.add_le_add_iff_right] at hf
    obtain ⟨o, hi, T', hT, hh⟩ := h
    simp only [planOk, Bool.and_eq_true] at hc
    obtain ⟨hc1, hc2⟩ := hc
    refine held_mono (S' := OffX X T' w) (fun w' hb => hb.mono hT) _ _ _ _ ?_
    by_cases hm : mk.contains i = true
    · rw [if_pos hm] at hc1 hh
      have hr : Region.ready .any ops listed = [i] := by simpa using hc1
      refine wpAnyH_all hr (by simp) fun j hj => ?_
      obtain rfl : j = i := by simpa using hj
      refine wpOp_mono (fun a' w' h' => ⟨h'.1, ?_⟩) hh
      exact held_mono (fun x hx => h'.1.trans hx) _ _ _ _ (owalk_held hs hQ σ fuel T' _ a' w' hf hc2 h'.2)
    · rw [if_neg hm] at hc1 hh
      simp only [Bool.and_eq_true] at hc1
      obtain ⟨v, hy, hw⟩ := hh
      exact wpAnyH_take hi hs hc1.1 hc1.2 (fun c a w => hQ c a _ v w) hy (OffX.refl _ _ _) (owalk_held hs hQ σ fuel T' _ _ w hf hc2 hw)
  | .fork i p j q, fuel, T, listed, a, w, hf, hc, h => by
    obtain ⟨fuel, rfl⟩ : ∃ k, fuel = k + 1 := ⟨fuel - 1, by simp [Plan.deep] at hf; omega⟩
    simp only [Plan.deep, Nat.add_le_add_iff_right] at hf
    obtain ⟨T', hT, h1, h2⟩ := h
    simp only [planOk, Bool.and_eq_true] at hc
    obtain ⟨⟨hc0, hc1⟩, hc2⟩ := hc
    refine held_mono (S' := OffX X T' w) (fun w' hb => hb.mono hT) _ _ _ _ ?_
    have hr : Region.ready .any ops listed = [i, j] := by simpa using hc0
    refine wpAnyH_all hr (by simp) fun k hk => ?_
    have hk' : k = i ∨ k = j := by simpa using hk
    rcases hk' with rfl | rfl
    · refine wpOp_mono (fun a' w' h' => ⟨h'.1, ?_⟩) h1
      exact held_mono (fun x hx => h'.1.trans hx) _ _ _ _ (owalk_held hs hQ p fuel T' _ a' w' (by omega) hc1 h'.2)
    · refine wpOp_mono (fun a' w' h' => ⟨h'.1, ?_⟩) h2
      exact held_mono (fun x hx => h'.1.trans hx) _ _ _ _ (owalk_held hs hQ q fuel T' _ a' w' (by omega) hc2 h'.2)

/-- THE BEGINNING. -/
theorem region_off {id : Nat} {a : Act} {w : World} (σ : Plan) (mk : List Nat) (hm : P.follows .mixedOrders = true) (hs : Region.noSelect ops = true) (hl : σ.deep ≤ ops.size)
    (hc : planOk ops mk σ (Array.replicate ops.size false) = true) (hQ : ∀ c (a : Act) d v w, Q (.panic c) (a.put d v) w → Q (.panic c) a w)
    (h : ∀ wd : World, Below w.heap.size w wd → wd.heap.size = w.heap.size → OWalk P ops Q mk X σ 0 a wd) : (Code.region id ops true).wp P Q a w :=
  wp_region_held (S := OffX X 0 w.drew) hm (owalk_held hs hQ σ _ 0 _ a _ hl hc (h w.drew (Below.refl _ _).drew rfl))

theorem off_fork {i j : Nat} {p q : Plan} {T : Nat} {a : Act} {w : World} {dst dst2 : Option Tmp} {op op2 : Op} {ty ty2 : TypeId} {pos pos2 : String} {af af2 : Array Edge} {gd gd2 : Option (Nat × Bool)}
    (hi : ops[i]? = some ⟨dst, op, ty, pos, af, gd⟩) (hj : ops[j]? = some ⟨dst2, op2, ty2, pos2, af2, gd2⟩) (T' : Nat) (hT : T ≤ T')
    (h1 : ∀ Q' : Exit → Act → World → Prop, (∀ a' w', OffX X T' w w' → OWalk P ops Q mk X p T' a' w' → Q' .normal a' w') → wpList P ops Q' [⟨dst, op, ty, pos, af, gd⟩] a w)
    (h2 : ∀ Q' : Exit → Act → World → Prop, (∀ a' w', OffX X T' w w' → OWalk P ops Q mk X q T' a' w' → Q' .normal a' w') → wpList P ops Q' [⟨dst2, op2, ty2, pos2, af2, gd2⟩] a w) : OWalk P ops Q mk X (.fork i p j q) T a w :=
  ⟨T', hT, wpOp_make hi (fun Q' hQ' => h1 Q' (fun a' w' hb hp => hQ' a' w' ⟨hb, hp⟩)), wpOp_make hj (fun Q' hQ' => h2 Q' (fun a' w' hb hp => hQ' a' w' ⟨hb, hp⟩))⟩
theorem off_pure {i : Nat} {σ : Plan} {T : Nat} {a : Act} {w : World} {dst : Option Tmp} {op : Op} {ty : TypeId} {pos : String} {af : Array Edge} {gd : Option (Nat × Bool)} (hm : mk.contains i = false) (hi : ops[i]? = some ⟨dst, op, ty, pos, af, gd⟩) (hw : Region.wanted ⟨dst, op, ty, pos, af, gd⟩ (yielded ops a.tmps) = true) {v : Value}
    (hy : ∀ w', (execOp a.eval ⟨dst, op, ty, pos, af, gd⟩).run P w' = .ok (.value v) w') (h : OWalk P ops Q mk X σ T (a.put dst v) w) : OWalk P ops Q mk X (.cons i σ) T a w :=
  ⟨_, hi, T, Nat.le_refl _, by rw [hm, if_neg (by simp)]; exact ⟨v, Or.inl ⟨hw, fun w' _ => hy w'⟩, h⟩⟩
theorem off_read {i : Nat} {σ : Plan} {T : Nat} {a : Act} {w : World} {dst : Option Tmp} {op : Op} {ty : TypeId} {pos : String} {af : Array Edge} {gd : Option (Nat × Bool)} (hm : mk.contains i = false) (hi : ops[i]? = some ⟨dst, op, ty, pos, af, gd⟩) (hw : Region.wanted ⟨dst, op, ty, pos, af, gd⟩ (yielded ops a.tmps) = true) (T' : Nat) (hT : T ≤ T') (v : Value)
    (hy : ∀ w', OffX X T' w w' → (execOp a.eval ⟨dst, op, ty, pos, af, gd⟩).run P w' = .ok (.value v) w') (h : OWalk P ops Q mk X σ T' (a.put dst v) w) : OWalk P ops Q mk X (.cons i σ) T a w :=
  ⟨_, hi, T', hT, by rw [hm, if_neg (by simp)]; exact ⟨v, Or.inl ⟨hw, hy⟩, h⟩⟩

theorem off_done {T : Nat} {a : Act} {w : World} (h : Q .normal a w) : OWalk P ops Q mk X .nil T a w := h
theorem off_make {i : Nat} {σ : Plan} {T : Nat} {a : Act} {w : World} {dst : Option Tmp} {op : Op} {ty : TypeId} {pos : String} {af : Array Edge} {gd : Option (Nat × Bool)} (hm : mk.contains i = true) (hi : ops[i]? = some ⟨dst, op, ty, pos, af, gd⟩) (T' : Nat) (hT : T ≤ T')
    (h : ∀ Q' : Exit → Act → World → Prop, (∀ a' w', OffX X T' w w' → OWalk P ops Q mk X σ T' a' w' → Q' .normal a' w') → wpList P ops Q' [⟨dst, op, ty, pos, af, gd⟩] a w) : OWalk P ops Q mk X (.cons i σ) T a w :=
  ⟨_, hi, T', hT, by rw [hm, if_pos rfl]; exact wpOp_make hi (fun Q' hQ' => h Q' (fun a' w' hb hp => hQ' a' w' ⟨hb, hp⟩))⟩
end
end Go.Proofs.Ytodgnlhakafhoaa.Can
