/- What is proved: for every input the Go function avocetlaw04.WirePlays returns true and leaves its arguments as they were. Conditions: none beyond the given statement's own. -/
import Derived.Test.YtodgnlhakafhoaaRows
import Derived.WalkKit
import Derived.ProofKit
import Derived.OpenShut
import Derived.Test.YtodgnlhakafhoaaWirT
import Derived.Test.YtodgnlhakafhoaaWirW
import Derived.Test.YtodgnlhakafhoaaWirN
import Derived.Lib.SmallJoins
import Derived.Deep.CutBlock
import Derived.Deep.SlicePairs
import Derived.ShutString
import Derived.ChangeOld
import Derived.Below
namespace Go.Proofs.Ytodgnlhakafhoaa.wirePlays
open Go.ChangeShapes Go.WideShapes Go.ChangeAt Go.RowKit
open Num Mem Wr Can
open Go.ChangeMaps (open_string shut_string)
set_option linter.unusedVariables false

theorem own : ownKnob Try.prog.godebug = none := by kernel_rfl
theorem laidOut : laidOutB Try.prog = true := by kernel_rfl

/-- WHAT THE WALK IS TOLD OF A SLICE OF INTEGERS THAT CAME IN: it is nil; or it leads to a row of 'cap' cells, the numbers 'zs' (the first 'len' are its elements, the rest its spare room), each fitting its kind. -/
def IsRow (k : IntKind) (w : World) (a : Option Addr) (len cap : Nat) (zs : List Int) : Prop :=
  (a = none ∧ len = 0 ∧ cap = 0 ∧ zs = []) ∨
  ∃ x, a = some x ∧ len ≤ cap ∧ cap ≤ maxLen ∧ zs.length = cap ∧ (∀ i, i < zs.length → w.cell? (x.add i) = some (.int k (zs.getD i 0))) ∧ ∀ n ∈ zs, (Lit.int k n).wf = true

/-- what the walk is told of a slice of calls that came in -/
def IsAsks (w : World) (a : Option Addr) (len : Nat) : Prop :=
  len = 0 ∨ ∃ x, a = some x ∧ ∀ i, i < len → ∃ k s : Int, w.cell? (x.add (i * 2)) = some (.int .i64 k) ∧ w.cell? (x.add (i * 2 + 1)) = some (.int .i64 s)

theorem two {X : Nat → Prop} {B : Nat} (w : World) (o o' : Obj) (hB : B ≤ w.heap.size) : OffX X B (w.alloc o) (w.alloc o') :=
  ⟨⟨rfl, rfl, rfl⟩, by simp, fun k hk _ => (Below.heap_alloc w o' k (by omega)).trans (Below.heap_alloc w o k (by omega)).symm⟩

/-! ### STEP 1: THE WALK: the Go text returns true, AND WRITES NOTHING THAT WAS THERE: 'Below w.heap.size w w'' (Derived/Below.lean: '.refl', '.alloc', '.drew', '.setCell' at a new block, '.trans'). Open each 'IsRow' by 'rcases' AHEAD of 'go_enter'; part every test ahead of the walk. -/
set_option maxRecDepth 100000 in
set_option maxHeartbeats 8000000 in
theorem walk (a0 : Option Addr) (len0 cap0 : Nat) (z0 : List Int) (a1 : Int) (a2 : Option Addr) (len2 cap2 : Nat) (w : World) (w0 : IsRow .u8 w a0 len0 cap0 z0) (w1 : (Lit.int .i64 a1).wf = true) (w2 : IsAsks w a2 len2) (w3 : len2 ≤ maxLen) :
    Calls Try.prog 12 #[.slice a0 len0 cap0, .int .i64 a1, .slice a2 len2 cap2] w fun e w' => e = .returned (.bool true) ∧ Below w.heap.size w w' := by
  obtain ⟨xs, hr, hlc, hlm⟩ := rd_row w0
  obtain ⟨a1l, a1h⟩ := Fits.i64 w1
  have hB : w.heap.size ≤ w.heap.size := Nat.le_refl _
  have hl := hr.len
  clear w0 w1
  by_cases hbad : 3000 < len0
  · go_enter Try.func12, Try.ntmps12
    go_wp2_with fail
    refine (works_any _).mono ?_
    rintro e w3 ⟨rfl, hb3⟩
    go_wp2_with fail
    go_ret
    exact ⟨rfl, hb3⟩
  · have g1 : ¬ (3000 : Int) < (len0 : Int) := by omega
    have HW2 := Lib.hid w2
    have HMX := Lib.hid w3
    clear hbad w2 w3
    go_enter Try.func12, Try.ntmps12
    go_wp2_with fail
    go_loopw [9] (fun i wr => ∃ (j : Nat) (x e : Int), i = .int .i64 j ∧ j ≤ len2 ∧ j ≤ 40 ∧ Bxr wr w.heap.size a0 len0 cap0 x e ∧ Bxr wr (w.heap.size + 1) a0 len0 cap0 x e ∧ Below w.heap.size w wr ∧ w.heap.size + 1 < wr.heap.size) (fun i _ => 40 - (intOf i).toNat)
    case atStart => exact ⟨0, a1, 0, rfl, by omega, by omega, ⟨⟨by go_simp, by go_simp, by go_simp⟩, by go_simp, by go_simp, by go_simp⟩, ⟨⟨by go_simp, by go_simp, by go_simp⟩, by go_simp, by go_simp, by go_simp⟩, ((Below.refl _ _).al hB _).al hB _, by simp⟩
    case round =>
      obtain ⟨j, x, e, rfl, hj, hj40, BQ, BR, hbz, hsz⟩ := hrel
      by_cases hlt : j < len2 ∧ j < 40
      · obtain ⟨h1, h2⟩ := hlt
        have h1i : (j : Int) < len2 := by omega
        have h2i : (j : Int) < 40 := by omega
        rcases HW2.out with h0 | ⟨⟨b, o, sp⟩, rfl, hc⟩
        · omega
        obtain ⟨_, _, c0, _⟩ := hc 0 (by omega)
        have hspot : sp = none := by simpa [Addr.add] using World.cell?_spot c0
        subst hspot
        have hbl : b < w.heap.size := by simpa [Addr.add] using World.block_lt_of_cell? _ _ c0
        obtain ⟨k, s, ck, cs⟩ := hc j h1
        rw [Addr.add_lit] at ck cs
        rw [← Nat.add_assoc] at cs
        have CK := Lib.hid ck
        have CS := Lib.hid cs
        obtain ⟨T, hT⟩ : ∃ T, T = dsT k s len0 xs x e := ⟨_, rfl⟩
        obtain ⟨E, hE⟩ : ∃ E, E = dsE k s len0 xs x e := ⟨_, rfl⟩
        have hdo := fun f w1 h1 h2 h3 h4 => does_any f a0 len0 cap0 w.heap.size x e k s xs w1 h1 h2 h3 h4 hlc (by omega)
        rw [← hT, ← hE] at hdo
        have HDO := Lib.hid hdo
        clear hc ck cs c0 hdo hT hE
        go_upto_region 7 with fail
        go_cut [10, 11] from 25 to 121 (fun s10 s11 wx => ∃ f, s10 = .pointer (some ⟨f, 0, none⟩) ∧ s11 = .bool true ∧ Bxr wx f a0 len0 cap0 T E ∧ Bxr wx w.heap.size a0 len0 cap0 T E ∧ Bxr wx (w.heap.size + 1) a0 len0 cap0 x e ∧ Below w.heap.size w wx ∧ w.heap.size + 1 < f ∧ f < wx.heap.size)
        case first =>
          refine region_off (X := (fun k => k = w.heap.size)) (Plan.of [0, 1, 2, 3, 4, 5] (.fork 6 (Plan.of [7, 8, 9, 10, 11, 12] .nil) 10 (Plan.of [6, 7, 8, 9, 11, 12] .nil))) [6, 10, 11] (by kernel_rfl) (by kernel_rfl) (by decide +kernel) (by kernel_rfl) (fun _ _ d _ _ h => by cases d <;> exact h) (fun wd hd hds => ?_)
          have hbd := hbz.thn hB hd
          have CKD := Lib.hid ((hbd.cell (p := ⟨b, o + j * 2, none⟩) (by simp only; omega)).trans CK.out)
          have CSD := Lib.hid ((hbd.cell (p := ⟨b, o + j * 2 + 1, none⟩) (by simp only; omega)).trans CS.out)
          have RDD := hr.below hbd
          have BRD := Lib.hid (BR.below hd hsz)
          have BQD := Lib.hid (BQ.below hd (by omega))
          have HNR := Lib.hid (show ¬ (fun k => k = w.heap.size) (w.heap.size + 1) by simp only; omega)
          have HNB := Lib.hid (show ¬ (fun k => k = w.heap.size) b by simp only; omega)
          have hsd : w.heap.size + 1 < wd.heap.size := by omega
          clear hd hds BQ BR CK CS hbz hsz
          repeat ((first | (refine off_pure (v := ?_) rfl rfl rfl ?_ ?_; rotate_left; · (intro w'; go_simp; try with_reducible rfl)) | (refine off_read rfl rfl rfl wd.heap.size (by omega) ?_ ?_ ?_; rotate_left; · (intro w' hb; obtain ⟨⟨z0, z1, z2⟩, _, _, _⟩ := Bxr.offX BRD.out hb (by omega) HNR.out; have z3 := (hb.cell (p := ⟨b, o + j * 2, none⟩) (by simp only; omega) HNB.out).trans CKD.out; have z4 := (hb.cell (p := ⟨b, o + j * 2 + 1, none⟩) (by simp only; omega) HNB.out).trans CSD.out; clear hb; go_simp; try with_reducible rfl))); simp only [Act.put, List.setIfInBounds_toArray, List.set_cons_zero, List.set_cons_succ])
          refine off_fork rfl rfl wd.heap.size (Nat.le_refl _) (fun Q1 hQ1 => ?_) (fun Q1 hQ1 => ?_)
          · go_wp2_with fail
            refine (HDO.out w.heap.size wd BQD.out (by omega) RDD (Nat.le_refl _)).mono ?_
            rintro e' w4 ⟨rfl, hx4, ho4⟩
            go_wp2_with fail
            refine hQ1 _ _ (OffX.off ho4 rfl) ?_
            have hs4 := ho4.size
            have BR4 := BRD.out.off ho4 (by omega) (by omega)
            have hb4 := hbd.trans (ho4.below (B' := w.heap.size) (by omega) (Nat.le_refl _))
            clear ho4 BRD BQD CKD CSD RDD hbd HNR HNB hQ1
            repeat ((refine off_pure (v := ?_) rfl rfl rfl ?_ ?_; rotate_left; · (intro w'; go_simp; try with_reducible rfl)); simp only [Act.put, List.setIfInBounds_toArray, List.set_cons_zero, List.set_cons_succ])
            refine off_make rfl rfl wd.heap.size (Nat.le_refl _) (fun Q1 hQ1 => ?_)
            go_wp2_with fail
            refine hQ1 _ _ (OffX.of ((Below.refl _ _).alloc hs4 _)) ?_
            clear hQ1
            refine off_make rfl rfl wd.heap.size (Nat.le_refl _) (fun Q1 hQ1 => ?_)
            go_wp2_with fail
            refine hQ1 _ _ (two _ _ _ hs4) ?_
            clear hQ1
            have BF5 : Bxr (w4.alloc (.cells #[.slice a0 len0 cap0, .int .i64 T, .int .i64 E] 60)) w4.heap.size a0 len0 cap0 T E := ⟨⟨by go_simp, by go_simp, by go_simp⟩, by go_simp, by go_simp, by go_simp⟩
            have hb5 := (Below.refl w4.heap.size w4).al (Nat.le_refl _) (.cells #[.slice a0 len0 cap0, .int .i64 T, .int .i64 E] 60)
            have hs5 : w4.heap.size < (w4.alloc (.cells #[.slice a0 len0 cap0, .int .i64 T, .int .i64 E] 60)).heap.size := by simp
            generalize w4.alloc (.cells #[.slice a0 len0 cap0, .int .i64 T, .int .i64 E] 60) = w5 at BF5 hb5 hs5 ⊢
            repeat ((refine off_pure (v := ?_) rfl rfl rfl ?_ ?_; rotate_left; · (intro w'; go_simp; try with_reducible rfl)); simp only [Act.put, List.setIfInBounds_toArray, List.set_cons_zero, List.set_cons_succ])
            refine off_done ?_
            go_wp2_with fail
            go_meet
            exact ⟨w4.heap.size, rfl, rfl, BF5, hx4.below hb5 (by omega), BR4.below hb5 (by omega), hb4.trans (hb5.mono (by omega)), by omega, hs5⟩
          · go_wp2_with fail
            have hbz1 := (Below.refl wd.heap.size wd).al (Nat.le_refl _) (.cells #[.slice none 0 0, .int .i64 0, .int .i64 0] 60)
            have BZ1 : Bxr (wd.alloc (.cells #[.slice none 0 0, .int .i64 0, .int .i64 0] 60)) wd.heap.size none 0 0 0 0 := ⟨⟨by go_simp, by go_simp, by go_simp⟩, by go_simp, by go_simp, by go_simp⟩
            have hs1 : wd.heap.size < (wd.alloc (.cells #[.slice none 0 0, .int .i64 0, .int .i64 0] 60)).heap.size := by simp
            refine hQ1 _ _ (OffX.of hbz1) ?_
            clear hQ1
            generalize (wd.alloc (.cells #[.slice none 0 0, .int .i64 0, .int .i64 0] 60)) = v1 at *
            refine off_make rfl rfl wd.heap.size (Nat.le_refl _) (fun Q1 hQ1 => ?_)
            go_wp2_with fail
            refine (HDO.out w.heap.size v1 (BQD.out.below hbz1 (by omega)) (by omega) (RDD.below' hbz1 (by omega)) (Nat.le_refl _)).mono ?_
            rintro e' w4 ⟨rfl, hx4, ho4⟩
            go_wp2_with fail
            refine hQ1 _ _ (OffX.off (ho4.mono (by omega)) rfl) ?_
            have hs4 := ho4.size
            have BR4 := (BRD.out.below hbz1 (by omega)).off ho4 (by omega) (by omega)
            have BZ4 := BZ1.off ho4 hs1 (by omega)
            have hb4 := (hbd.trans (hbz1.mono (by omega))).trans (ho4.below (B' := w.heap.size) (by omega) (Nat.le_refl _))
            clear ho4 BRD BQD CKD CSD RDD hbd HNR HNB hQ1 hbz1 BZ1
            repeat ((refine off_pure (v := ?_) rfl rfl rfl ?_ ?_; rotate_left; · (intro w'; go_simp; try with_reducible rfl)); simp only [Act.put, List.setIfInBounds_toArray, List.set_cons_zero, List.set_cons_succ])
            obtain ⟨⟨q0, q1, q2⟩, p0, p1, p2⟩ := BZ4
            refine off_make rfl rfl wd.heap.size (Nat.le_refl _) (fun Q1 hQ1 => ?_)
            go_wp2_with fail
            obtain ⟨BF5, hb5, hs5⟩ := store_rd ⟨⟨q0, q1, q2⟩, p0, p1, p2⟩ a0 len0 cap0 T E
            refine hQ1 _ _ (OffX.of (hb5.mono (by omega))) ?_
            clear hQ1 q0 q1 q2 p0 p1 p2
            generalize ((w4.setCell ⟨wd.heap.size, 0, none⟩ (.slice a0 len0 cap0)).setCell ⟨wd.heap.size, 1, none⟩ (.int .i64 T)).setCell ⟨wd.heap.size, 2, none⟩ (.int .i64 E) = w5 at BF5 hb5 hs5 ⊢
            repeat ((refine off_pure (v := ?_) rfl rfl rfl ?_ ?_; rotate_left; · (intro w'; go_simp; try with_reducible rfl)); simp only [Act.put, List.setIfInBounds_toArray, List.set_cons_zero, List.set_cons_succ])
            refine off_done ?_
            go_wp2_with fail
            go_meet
            exact ⟨wd.heap.size, rfl, rfl, BF5, hx4.below hb5 (by omega), BR4.below hb5 (by omega), hb4.trans (hb5.mono (by omega)), by omega, by omega⟩
        case rest =>
          obtain ⟨f, rfl, rfl, BF, BQ1, BR1, hbz1, hf1, hf2⟩ := hcut
          clear BQ BR hbz hsz
          go_upto_region 8 with fail
          go_cut [12, 13] from 25 to 121 (fun s12 s13 wx => ∃ f2, s12 = .pointer (some ⟨f2, 0, none⟩) ∧ s13 = .bool true ∧ Bxr wx f2 a0 len0 cap0 T E ∧ Bxr wx f a0 len0 cap0 T E ∧ Bxr wx w.heap.size a0 len0 cap0 T E ∧ Bxr wx (w.heap.size + 1) a0 len0 cap0 x e ∧ Below w.heap.size w wx ∧ f < wx.heap.size)
          case first =>
            refine region_off (X := (fun _ => False)) (Plan.of [0, 1, 2, 3, 4, 5, 6, 7, 8, 9, 10] (.fork 11 (.fork 12 (Plan.of [13, 14, 15, 16, 17, 18] .nil) 16 (Plan.of [12, 13, 14, 15, 17, 18] .nil)) 16 (Plan.of [11, 12, 13, 14, 15, 17, 18] .nil))) [11, 12, 16, 17] (by kernel_rfl) (by kernel_rfl) (by decide +kernel) (by kernel_rfl) (fun _ _ d _ _ h => by cases d <;> exact h) (fun wd hd hds => ?_)
            have hbd := hbz1.thn hB hd
            have CKD := Lib.hid ((hbd.cell (p := ⟨b, o + j * 2, none⟩) (by simp only; omega)).trans CK.out)
            have CSD := Lib.hid ((hbd.cell (p := ⟨b, o + j * 2 + 1, none⟩) (by simp only; omega)).trans CS.out)
            have RDD := hr.below hbd
            have BRD := Lib.hid (BR1.below hd (by omega))
            have BQD := Lib.hid (BQ1.below hd (by omega))
            have BFD := Lib.hid (BF.below hd hf2)
            have HNR := Lib.hid (show ¬ (fun _ => False) (w.heap.size + 1) by simp)
            have HNB := Lib.hid (show ¬ (fun _ => False) b by simp)
            have hsd : f < wd.heap.size := by omega
            clear hd hds BQ1 BR1 BF CK CS hbz1 hf2
            repeat ((first | (refine off_pure (v := ?_) rfl rfl rfl ?_ ?_; rotate_left; · (intro w'; go_simp; try with_reducible rfl)) | (refine off_read rfl rfl rfl wd.heap.size (by omega) ?_ ?_ ?_; rotate_left; · (intro w' hb; obtain ⟨⟨z0, z1, z2⟩, _, _, _⟩ := Bxr.offX BRD.out hb (by omega) HNR.out; have z3 := (hb.cell (p := ⟨b, o + j * 2, none⟩) (by simp only; omega) HNB.out).trans CKD.out; have z4 := (hb.cell (p := ⟨b, o + j * 2 + 1, none⟩) (by simp only; omega) HNB.out).trans CSD.out; clear hb; go_simp; try with_reducible rfl))); simp only [Act.put, List.setIfInBounds_toArray, List.set_cons_zero, List.set_cons_succ])
            refine off_fork rfl rfl wd.heap.size (Nat.le_refl _) (fun Q1 hQ1 => ?_) (fun Q1 hQ1 => ?_)
            · go_wp2_with fail
              have hbv1 := (Below.refl wd.heap.size wd).al (Nat.le_refl _) (.cells #[.slice a0 len0 cap0, .int .i64 x, .int .i64 e] 63)
              have BH : Bxr (wd.alloc (.cells #[.slice a0 len0 cap0, .int .i64 x, .int .i64 e] 63)) wd.heap.size a0 len0 cap0 x e := ⟨⟨by go_simp, by go_simp, by go_simp⟩, by go_simp, by go_simp, by go_simp⟩
              have hs1 : wd.heap.size < (wd.alloc (.cells #[.slice a0 len0 cap0, .int .i64 x, .int .i64 e] 63)).heap.size := by simp
              refine hQ1 _ _ (OffX.of hbv1) ?_
              clear hQ1
              generalize (wd.alloc (.cells #[.slice a0 len0 cap0, .int .i64 x, .int .i64 e] 63)) = v1 at *
              refine off_fork rfl rfl wd.heap.size (Nat.le_refl _) (fun Q1 hQ1 => ?_) (fun Q1 hQ1 => ?_)
              · go_wp2_with fail
                refine (HDO.out wd.heap.size v1 BH (by omega) (RDD.below' hbv1 (by omega)) (by omega)).mono ?_
                rintro e' w4 ⟨rfl, hx4, ho4⟩
                go_wp2_with fail
                refine hQ1 _ _ (OffX.of (ho4.below (by omega) (by omega))) ?_
                clear hQ1
                have hb4 := hbv1.trans (ho4.below (B' := wd.heap.size) (by omega) (Nat.le_refl _))
                have hs4 := hb4.size
                clear ho4 BH hbv1
                repeat ((refine off_pure (v := ?_) rfl rfl rfl ?_ ?_; rotate_left; · (intro w'; go_simp; try with_reducible rfl)); simp only [Act.put, List.setIfInBounds_toArray, List.set_cons_zero, List.set_cons_succ])
                refine off_make rfl rfl wd.heap.size (Nat.le_refl _) (fun Q1 hQ1 => ?_)
                go_wp2_with fail
                refine hQ1 _ _ (OffX.of ((Below.refl _ _).alloc hs4 _)) ?_
                clear hQ1
                refine off_make rfl rfl wd.heap.size (Nat.le_refl _) (fun Q1 hQ1 => ?_)
                go_wp2_with fail
                refine hQ1 _ _ (two _ _ _ hs4) ?_
                clear hQ1
                have BF5 : Bxr (w4.alloc (.cells #[.slice a0 len0 cap0, .int .i64 T, .int .i64 E] 60)) w4.heap.size a0 len0 cap0 T E := ⟨⟨by go_simp, by go_simp, by go_simp⟩, by go_simp, by go_simp, by go_simp⟩
                have hb5 := (Below.refl w4.heap.size w4).al (Nat.le_refl _) (.cells #[.slice a0 len0 cap0, .int .i64 T, .int .i64 E] 60)
                have hs5 : w4.heap.size < (w4.alloc (.cells #[.slice a0 len0 cap0, .int .i64 T, .int .i64 E] 60)).heap.size := by simp
                generalize w4.alloc (.cells #[.slice a0 len0 cap0, .int .i64 T, .int .i64 E] 60) = w5 at BF5 hb5 hs5 ⊢
                have hb6 := hb4.trans (hb5.mono hs4)
                repeat ((refine off_pure (v := ?_) rfl rfl rfl ?_ ?_; rotate_left; · (intro w'; go_simp; try with_reducible rfl)); simp only [Act.put, List.setIfInBounds_toArray, List.set_cons_zero, List.set_cons_succ])
                refine off_done ?_
                go_wp2_with fail
                go_meet
                exact ⟨w4.heap.size, rfl, rfl, BF5, BFD.out.below hb6 (by omega), BQD.out.below hb6 (by omega), BRD.out.below hb6 (by omega), hbd.trans (hb6.mono (by omega)), by have := hb6.size; omega⟩
              · go_wp2_with fail
                have hbz2 := (Below.refl v1.heap.size v1).al (Nat.le_refl _) (.cells #[.slice none 0 0, .int .i64 0, .int .i64 0] 60)
                have BZ1 : Bxr (v1.alloc (.cells #[.slice none 0 0, .int .i64 0, .int .i64 0] 60)) v1.heap.size none 0 0 0 0 := ⟨⟨by go_simp, by go_simp, by go_simp⟩, by go_simp, by go_simp, by go_simp⟩
                have hs2 : v1.heap.size < (v1.alloc (.cells #[.slice none 0 0, .int .i64 0, .int .i64 0] 60)).heap.size := by simp
                refine hQ1 _ _ (OffX.of (hbz2.mono (by omega))) ?_
                clear hQ1
                have BH := BH.below hbz2 (by omega)
                have hbv2 := hbv1.trans (hbz2.mono (by omega))
                generalize (v1.alloc (.cells #[.slice none 0 0, .int .i64 0, .int .i64 0] 60)) = v2 at *
                refine off_make rfl rfl wd.heap.size (Nat.le_refl _) (fun Q1 hQ1 => ?_)
                go_wp2_with fail
                refine (HDO.out wd.heap.size v2 BH (by omega) (RDD.below' hbv2 (by omega)) (by omega)).mono ?_
                rintro e' w4 ⟨rfl, hx4, ho4⟩
                go_wp2_with fail
                refine hQ1 _ _ (OffX.of (ho4.below (by omega) (by omega))) ?_
                clear hQ1
                have hb4 := hbv2.trans (ho4.below (B' := wd.heap.size) (by omega) (Nat.le_refl _))
                have BZ4 := BZ1.off ho4 hs2 (by omega)
                have hs4 := ho4.size
                clear ho4 BH hbv1 hbv2 BZ1 hbz2
                repeat ((refine off_pure (v := ?_) rfl rfl rfl ?_ ?_; rotate_left; · (intro w'; go_simp; try with_reducible rfl)); simp only [Act.put, List.setIfInBounds_toArray, List.set_cons_zero, List.set_cons_succ])
                obtain ⟨⟨q0, q1, q2⟩, p0, p1, p2⟩ := BZ4
                refine off_make rfl rfl wd.heap.size (Nat.le_refl _) (fun Q1 hQ1 => ?_)
                go_wp2_with fail
                obtain ⟨BF5, hb5, hs5⟩ := store_rd ⟨⟨q0, q1, q2⟩, p0, p1, p2⟩ a0 len0 cap0 T E
                refine hQ1 _ _ (OffX.of (hb5.mono (by omega))) ?_
                clear hQ1 q0 q1 q2 p0 p1 p2
                generalize ((w4.setCell ⟨v1.heap.size, 0, none⟩ (.slice a0 len0 cap0)).setCell ⟨v1.heap.size, 1, none⟩ (.int .i64 T)).setCell ⟨v1.heap.size, 2, none⟩ (.int .i64 E) = w5 at BF5 hb5 hs5 ⊢
                have hb6 := hb4.trans (hb5.mono (by omega))
                repeat ((refine off_pure (v := ?_) rfl rfl rfl ?_ ?_; rotate_left; · (intro w'; go_simp; try with_reducible rfl)); simp only [Act.put, List.setIfInBounds_toArray, List.set_cons_zero, List.set_cons_succ])
                refine off_done ?_
                go_wp2_with fail
                go_meet
                exact ⟨v1.heap.size, rfl, rfl, BF5, BFD.out.below hb6 (by omega), BQD.out.below hb6 (by omega), BRD.out.below hb6 (by omega), hbd.trans (hb6.mono (by omega)), by have := hb6.size; omega⟩
            · go_wp2_with fail
              have hbv1 := (Below.refl wd.heap.size wd).al (Nat.le_refl _) (.cells #[.slice none 0 0, .int .i64 0, .int .i64 0] 60)
              have BZ1 : Bxr (wd.alloc (.cells #[.slice none 0 0, .int .i64 0, .int .i64 0] 60)) wd.heap.size none 0 0 0 0 := ⟨⟨by go_simp, by go_simp, by go_simp⟩, by go_simp, by go_simp, by go_simp⟩
              have hs1 : wd.heap.size < (wd.alloc (.cells #[.slice none 0 0, .int .i64 0, .int .i64 0] 60)).heap.size := by simp
              refine hQ1 _ _ (OffX.of hbv1) ?_
              clear hQ1
              generalize (wd.alloc (.cells #[.slice none 0 0, .int .i64 0, .int .i64 0] 60)) = v1 at *
              refine off_make rfl rfl wd.heap.size (Nat.le_refl _) (fun Q1 hQ1 => ?_)
              go_wp2_with fail
              have hbz2 := (Below.refl v1.heap.size v1).al (Nat.le_refl _) (.cells #[.slice a0 len0 cap0, .int .i64 x, .int .i64 e] 63)
              have BH : Bxr (v1.alloc (.cells #[.slice a0 len0 cap0, .int .i64 x, .int .i64 e] 63)) v1.heap.size a0 len0 cap0 x e := ⟨⟨by go_simp, by go_simp, by go_simp⟩, by go_simp, by go_simp, by go_simp⟩
              have hs2 : v1.heap.size < (v1.alloc (.cells #[.slice a0 len0 cap0, .int .i64 x, .int .i64 e] 63)).heap.size := by simp
              refine hQ1 _ _ (OffX.of (hbz2.mono (by omega))) ?_
              clear hQ1
              have BZ2 := BZ1.below hbz2 (by omega)
              have hbv2 := hbv1.trans (hbz2.mono (by omega))
              generalize (v1.alloc (.cells #[.slice a0 len0 cap0, .int .i64 x, .int .i64 e] 63)) = v2 at *
              refine off_make rfl rfl wd.heap.size (Nat.le_refl _) (fun Q1 hQ1 => ?_)
              go_wp2_with fail
              refine (HDO.out v1.heap.size v2 BH (by omega) (RDD.below' hbv2 (by omega)) (by omega)).mono ?_
              rintro e' w4 ⟨rfl, hx4, ho4⟩
              go_wp2_with fail
              refine hQ1 _ _ (OffX.of (ho4.below (by omega) (by omega))) ?_
              clear hQ1
              have hb4 := hbv2.trans (ho4.below (B' := wd.heap.size) (by omega) (by omega))
              have BZ4 := BZ2.off ho4 (by omega) (by omega)
              have hs4 := ho4.size
              clear ho4 BH hbv1 hbv2 BZ1 BZ2 hbz2
              repeat ((refine off_pure (v := ?_) rfl rfl rfl ?_ ?_; rotate_left; · (intro w'; go_simp; try with_reducible rfl)); simp only [Act.put, List.setIfInBounds_toArray, List.set_cons_zero, List.set_cons_succ])
              obtain ⟨⟨q0, q1, q2⟩, p0, p1, p2⟩ := BZ4
              refine off_make rfl rfl wd.heap.size (Nat.le_refl _) (fun Q1 hQ1 => ?_)
              go_wp2_with fail
              obtain ⟨BF5, hb5, hs5⟩ := store_rd ⟨⟨q0, q1, q2⟩, p0, p1, p2⟩ a0 len0 cap0 T E
              refine hQ1 _ _ (OffX.of (hb5.mono (by omega))) ?_
              clear hQ1 q0 q1 q2 p0 p1 p2
              generalize ((w4.setCell ⟨wd.heap.size, 0, none⟩ (.slice a0 len0 cap0)).setCell ⟨wd.heap.size, 1, none⟩ (.int .i64 T)).setCell ⟨wd.heap.size, 2, none⟩ (.int .i64 E) = w5 at BF5 hb5 hs5 ⊢
              have hb6 := hb4.trans (hb5.mono (by omega))
              repeat ((refine off_pure (v := ?_) rfl rfl rfl ?_ ?_; rotate_left; · (intro w'; go_simp; try with_reducible rfl)); simp only [Act.put, List.setIfInBounds_toArray, List.set_cons_zero, List.set_cons_succ])
              refine off_done ?_
              go_wp2_with fail
              go_meet
              exact ⟨wd.heap.size, rfl, rfl, BF5, BFD.out.below hb6 (by omega), BQD.out.below hb6 (by omega), BRD.out.below hb6 (by omega), hbd.trans (hb6.mono (by omega)), by have := hb6.size; omega⟩
          case rest =>
            obtain ⟨f2, rfl, rfl, BG2, BF2, BQ2, BR2, hbz2, hf3⟩ := hcut
            clear BF BQ1 BR1 hbz1 hf2 HDO CS
            obtain ⟨⟨x0, x1, x2⟩, l0, l1, l2⟩ := BF2
            obtain ⟨⟨y0, y1, y2⟩, m0, m1, m2⟩ := BG2
            have hrd := hr.below hbz2
            go_upto_region 11 with (with_reducible refine wpl_str rfl rfl hrd ?_)
            have BF2 : Bxr _ f a0 len0 cap0 T E := ⟨⟨x0, x1, x2⟩, l0, l1, l2⟩
            have BG2 : Bxr _ f2 a0 len0 cap0 T E := ⟨⟨y0, y1, y2⟩, m0, m1, m2⟩
            clear x0 x1 x2 l0 l1 l2 y0 y1 y2 m0 m1 m2 hrd
            rcases (show k < 0 ∨ (0 ≤ k ∧ 6 < k) ∨ (0 ≤ k ∧ k ≤ 6) by omega) with h | ⟨h, h'⟩ | ⟨h, h'⟩
            · have d1 : decide (0 ≤ k) = false := by simp; omega
              clear h
              refine region_can [0, 1, 2, 3, 4, 5, 6, 7, 8, 9, 10, 11, 12, 13, 14, 15, 16, 17, 18, 19, 20, 21, 22, 23, 24, 25, 26, 27, 28, 29, 30, 31] [] (by kernel_rfl) (by kernel_rfl) (by decide +kernel) (by kernel_rfl) (fun _ _ d _ _ h => by cases d <;> exact h) (fun wd hd hds => ?_)
              have hbd := hbz2.thn hB hd
              have CKD := Lib.hid ((hbd.cell (p := ⟨b, o + j * 2, none⟩) (by simp only; omega)).trans CK.out)
              have BRD := Lib.hid (BR2.below hd (by omega))
              have BQD := Lib.hid (BQ2.below hd (by omega))
              have BFD := Lib.hid (BF2.below hd hf3)
              have hsd : f < wd.heap.size := by omega
              clear hd hds BQ2 BR2 BF2 BG2 hbz2 hf3
              repeat ((first | (refine can_pure (v := ?_) rfl rfl rfl ?_ ?_; rotate_left; · (intro w'; go_simp; try with_reducible rfl)) | (refine can_skip rfl rfl rfl ?_) | (refine can_read rfl rfl rfl wd.heap.size (by omega) ?_ ?_ ?_; rotate_left; · (intro w' hb; obtain ⟨⟨z0, z1, z2⟩, _, _, _⟩ := Bxr.below BFD.out hb (by omega); obtain ⟨⟨y0, y1, y2⟩, _, _, _⟩ := Bxr.below BQD.out hb (by omega); have z3 := (hb.cell (p := ⟨b, o + j * 2, none⟩) (by simp only; omega)).trans CKD.out; clear hb; go_simp; try with_reducible rfl))); simp only [Act.put, List.setIfInBounds_toArray, List.set_cons_zero, List.set_cons_succ])
              refine can_done ?_
              obtain ⟨⟨r0, r1, r2⟩, k0, k1, k2⟩ := BRD.out
              obtain ⟨⟨y0, y1, y2⟩, _, _, _⟩ := BFD.out
              go_wp2_with fail
              obtain ⟨BR5, hb5, hs5⟩ := store_rd ⟨⟨r0, r1, r2⟩, k0, k1, k2⟩ a0 len0 cap0 T E
              have BQ5 := BQD.out.below hb5 (by omega)
              have hbz5 := hbd.trans (hb5.mono (by omega))
              clear r0 r1 r2 k0 k1 k2 y0 y1 y2
              go_roundw
              case rel => exact ⟨j + 1, T, E, by simp, by omega, by omega, BQ5, BR5, hbz5, by rw [hs5]; omega⟩
              case measure => simp [intOf]; omega
            · have d1 : decide (0 ≤ k) = true := by simp [h]
              have d2 : decide (k ≤ 6) = false := by simp; omega
              clear h h'
              refine region_can [0, 1, 2, 3, 4, 5, 6, 7, 8, 9, 10, 11, 12, 13, 14, 15, 16, 17, 18, 19, 20, 21, 22, 23, 24, 25, 26, 27, 28, 29, 30, 31] [] (by kernel_rfl) (by kernel_rfl) (by decide +kernel) (by kernel_rfl) (fun _ _ d _ _ h => by cases d <;> exact h) (fun wd hd hds => ?_)
              have hbd := hbz2.thn hB hd
              have CKD := Lib.hid ((hbd.cell (p := ⟨b, o + j * 2, none⟩) (by simp only; omega)).trans CK.out)
              have BRD := Lib.hid (BR2.below hd (by omega))
              have BQD := Lib.hid (BQ2.below hd (by omega))
              have BFD := Lib.hid (BF2.below hd hf3)
              have hsd : f < wd.heap.size := by omega
              clear hd hds BQ2 BR2 BF2 BG2 hbz2 hf3
              repeat ((first | (refine can_pure (v := ?_) rfl rfl rfl ?_ ?_; rotate_left; · (intro w'; go_simp; try with_reducible rfl)) | (refine can_skip rfl rfl rfl ?_) | (refine can_read rfl rfl rfl wd.heap.size (by omega) ?_ ?_ ?_; rotate_left; · (intro w' hb; obtain ⟨⟨z0, z1, z2⟩, _, _, _⟩ := Bxr.below BFD.out hb (by omega); obtain ⟨⟨y0, y1, y2⟩, _, _, _⟩ := Bxr.below BQD.out hb (by omega); have z3 := (hb.cell (p := ⟨b, o + j * 2, none⟩) (by simp only; omega)).trans CKD.out; clear hb; go_simp; try with_reducible rfl))); simp only [Act.put, List.setIfInBounds_toArray, List.set_cons_zero, List.set_cons_succ])
              refine can_done ?_
              obtain ⟨⟨r0, r1, r2⟩, k0, k1, k2⟩ := BRD.out
              obtain ⟨⟨y0, y1, y2⟩, _, _, _⟩ := BFD.out
              go_wp2_with fail
              obtain ⟨BR5, hb5, hs5⟩ := store_rd ⟨⟨r0, r1, r2⟩, k0, k1, k2⟩ a0 len0 cap0 T E
              have BQ5 := BQD.out.below hb5 (by omega)
              have hbz5 := hbd.trans (hb5.mono (by omega))
              clear r0 r1 r2 k0 k1 k2 y0 y1 y2
              go_roundw
              case rel => exact ⟨j + 1, T, E, by simp, by omega, by omega, BQ5, BR5, hbz5, by rw [hs5]; omega⟩
              case measure => simp [intOf]; omega
            · have d1 : decide (0 ≤ k) = true := by simp [h]
              have d2 : decide (k ≤ 6) = true := by simp [h']
              clear h h'
              refine region_can [0, 1, 2, 3, 4, 5, 6, 7, 8, 9, 10, 11, 12, 13, 14, 15, 16, 17, 18, 19, 20, 21, 22, 23, 24, 25, 26, 27, 28, 29, 30, 31] [] (by kernel_rfl) (by kernel_rfl) (by decide +kernel) (by kernel_rfl) (fun _ _ d _ _ h => by cases d <;> exact h) (fun wd hd hds => ?_)
              have hbd := hbz2.thn hB hd
              have CKD := Lib.hid ((hbd.cell (p := ⟨b, o + j * 2, none⟩) (by simp only; omega)).trans CK.out)
              have BRD := Lib.hid (BR2.below hd (by omega))
              have BQD := Lib.hid (BQ2.below hd (by omega))
              have BFD := Lib.hid (BF2.below hd hf3)
              have hsd : f < wd.heap.size := by omega
              clear hd hds BQ2 BR2 BF2 BG2 hbz2 hf3
              repeat ((first | (refine can_pure (v := ?_) rfl rfl rfl ?_ ?_; rotate_left; · (intro w'; go_simp; try with_reducible rfl)) | (refine can_skip rfl rfl rfl ?_) | (refine can_read rfl rfl rfl wd.heap.size (by omega) ?_ ?_ ?_; rotate_left; · (intro w' hb; obtain ⟨⟨z0, z1, z2⟩, _, _, _⟩ := Bxr.below BFD.out hb (by omega); obtain ⟨⟨y0, y1, y2⟩, _, _, _⟩ := Bxr.below BQD.out hb (by omega); have z3 := (hb.cell (p := ⟨b, o + j * 2, none⟩) (by simp only; omega)).trans CKD.out; clear hb; go_simp; try with_reducible rfl))); simp only [Act.put, List.setIfInBounds_toArray, List.set_cons_zero, List.set_cons_succ])
              refine can_done ?_
              obtain ⟨⟨r0, r1, r2⟩, k0, k1, k2⟩ := BRD.out
              obtain ⟨⟨y0, y1, y2⟩, _, _, _⟩ := BFD.out
              go_wp2_with fail
              obtain ⟨BR5, hb5, hs5⟩ := store_rd ⟨⟨r0, r1, r2⟩, k0, k1, k2⟩ a0 len0 cap0 T E
              have BQ5 := BQD.out.below hb5 (by omega)
              have hbz5 := hbd.trans (hb5.mono (by omega))
              clear r0 r1 r2 k0 k1 k2 y0 y1 y2
              go_roundw
              case rel => exact ⟨j + 1, T, E, by simp, by omega, by omega, BQ5, BR5, hbz5, by rw [hs5]; omega⟩
              case measure => simp [intOf]; omega
      · rcases (show j = len2 ∨ (j < len2 ∧ j = 40) by omega) with h | ⟨h, h'⟩
        · have h1i : ¬ (j : Int) < len2 := by omega
          clear h hlt
          obtain ⟨⟨r0, r1, r2⟩, k0, k1, k2⟩ := BR
          go_wp2_with fail
          refine (end_any a0 len0 cap0 x e wr).mono ?_
          rintro e' w5 ⟨rfl, hb5⟩
          have BQ5 := BQ.below hb5 (by omega)
          have hs5 := hb5.size
          go_wp2_with fail
          refine (rend_any w.heap.size a0 len0 cap0 x e w5 BQ5 (by omega)).mono ?_
          rintro e' w6 ⟨rfl, ho6⟩
          have hb6 := (hbz.thn hB hb5).trans (ho6.below (B' := w.heap.size) (by omega) (Nat.le_refl _))
          clear r0 r1 r2 k0 k1 k2 BQ BQ5
          go_wp2_with fail
          refine (works_any _).mono ?_
          rintro e' w7 ⟨rfl, hb7⟩
          go_wp2_with fail
          go_ret
          exact ⟨rfl, hb6.thn hB hb7⟩
        · subst h'
          have h1i : ((40 : Nat) : Int) < len2 := by omega
          clear h hlt
          obtain ⟨⟨r0, r1, r2⟩, k0, k1, k2⟩ := BR
          go_wp2_with fail
          refine (end_any a0 len0 cap0 x e wr).mono ?_
          rintro e' w5 ⟨rfl, hb5⟩
          have BQ5 := BQ.below hb5 (by omega)
          have hs5 := hb5.size
          go_wp2_with fail
          refine (rend_any w.heap.size a0 len0 cap0 x e w5 BQ5 (by omega)).mono ?_
          rintro e' w6 ⟨rfl, ho6⟩
          have hb6 := (hbz.thn hB hb5).trans (ho6.below (B' := w.heap.size) (by omega) (Nat.le_refl _))
          clear r0 r1 r2 k0 k1 k2 BQ BQ5
          go_wp2_with fail
          refine (works_any _).mono ?_
          rintro e' w7 ⟨rfl, hb7⟩
          go_wp2_with fail
          go_ret
          exact ⟨rfl, hb6.thn hB hb7⟩

/-! ### THE ROW's STEP: WRITTEN OUT: LEAVE IT -/
set_option maxRecDepth 100000 in
theorem lifted (os : Os) (started : os.Started) (H : Type) (enc : TypeId × Value → H) :
    ReturnsInHanded {} Try.checked os 12 .any (Rows.wirePlaysSpec.pre6 enc Try.prog Try.f12 Rows.wirePlaysRow.domain false) (Rows.wirePlaysSpec.post enc Try.prog Try.f12 false true false false) := by
  refine returnsInHanded_of_change (C := Try.checked) own started (by kernel_rfl) Try.func12
    (ChangeSpec.witness6 (enc := enc) (C := Try.checked) false ⟨#[], #[.slice none 0 0, .int .i64 0, .slice none 0 0], []⟩ 8 (by kernel_rfl) (by kernel_rfl) (by kernel_rfl) (by kernel_rfl)) ?_
  intro W base args ds gs before hval0 hW hcnd _
  have hval : ∀ (j : Nat) t v, Try.f12.params[j]? = some t → args[j]? = some v → Value.okWide Try.prog W .any base t v := hval0
  have hW' := hW
  obtain ⟨p, q, hA0, hV, rfl, hfz, hnd⟩ := hW
  have hA : DataW.TrodAll enc Try.prog W 0 (fun _ => true) true Try.f12.params.toList args.toList ds p := hA0
  rw [Try.params12] at hA hval
  obtain ⟨v0, vs0, d0, ds0, p0, q0, hargs, rfl, rfl, h0, r0⟩ := trodAll_cons hA
  obtain ⟨v1, vs1, d1, ds1, p1, q1, rfl, rfl, rfl, h1, r1⟩ := trodAll_cons r0
  obtain ⟨v2, vs2, d2, ds2, p2, q2, rfl, rfl, rfl, h2, r2⟩ := trodAll_cons r1
  obtain ⟨rfl, rfl, rfl⟩ := trodAll_nil r2
  obtain rfl : args = #[v0, v1, v2] := by cases args; simp_all
  obtain ⟨rfl, rfl⟩ := trodVars_none hV
  obtain ⟨a0, len0, cap0, rfl⟩ := okWide_slice Try.underlying22 (hval 0 22 v0 rfl rfl)
  have k0 := h0
  have lt0 : ∀ x ∈ p0, x.block < W.heap.size := by obtain ⟨m, hm⟩ := k0; exact DataW.trod_lt m _ _ _ hm
  obtain ⟨z0, w0⟩ : ∃ zs, IsRow .u8 W a0 len0 cap0 zs := by
    obtain ⟨fuel, hf⟩ := h0
    rcases open_ints Try.underlying22 Try.underlying5 (by kernel_rfl) hf with ⟨hcs, _⟩ | ⟨x, l, c, zs, hcs, _, hl, hm, hz, _, hcell, hwz⟩
    · simp [Value.cells] at hcs
      obtain ⟨rfl, rfl, rfl⟩ := hcs
      exact ⟨[], .inl ⟨rfl, rfl, rfl, rfl⟩⟩
    · simp [Value.cells] at hcs
      obtain ⟨rfl, rfl, rfl⟩ := hcs
      exact ⟨zs, .inr ⟨_, rfl, hl, hm, by simpa using hz, hcell, hwz⟩⟩
  obtain ⟨a1, rfl, rfl, rfl, w1⟩ := open_int Try.underlying3 (hval 1 3 v1 rfl rfl) h1
  obtain ⟨a2, len2, cap2, rfl⟩ := okWide_slice Try.underlying58 (hval 2 58 v2 rfl rfl)
  have k2 := h2
  have lt2 : ∀ x ∈ p2, x.block < W.heap.size := by obtain ⟨m, hm⟩ := k2; exact DataW.trod_lt m _ _ _ hm
  obtain ⟨w2, w3⟩ : IsAsks W a2 len2 ∧ len2 ≤ maxLen := by
    obtain ⟨fuel, hf⟩ := h2
    rcases Go.Deep.open_slice_pairs Try.underlying58 Try.underlying67 (by kernel_rfl) rfl rfl (by kernel_rfl) (by kernel_rfl) hf with ⟨hcs, _⟩ | ⟨x, l, c, m, n, V0, V1, D0, D1, P0, P1, hcs, _, hl, hm, hmm, _, hcell⟩
    · simp [Value.cells] at hcs
      obtain ⟨rfl, rfl, rfl⟩ := hcs
      exact ⟨.inl rfl, by simp [maxLen]⟩
    · simp [Value.cells] at hcs
      obtain ⟨rfl, rfl, rfl⟩ := hcs
      refine ⟨.inr ⟨_, rfl, fun i hi => ?_⟩, by omega⟩
      obtain ⟨e0, e1, t0, t1⟩ := hcell i (by rw [hmm, if_pos rfl]; omega)
      obtain ⟨k, f0, _, _⟩ := DataW.trod_int Try.underlying3 t0
      obtain ⟨s, f1, _, _⟩ := DataW.trod_int Try.underlying3 t1
      simp only [List.cons.injEq, and_true] at f0 f1
      rw [f0] at e0
      rw [f1] at e1
      exact ⟨k, s, e0, e1⟩
  clear hA0 hval0
  refine (walk a0 len0 cap0 z0 a1 a2 len2 cap2 W w0 w1 w2 w3).mono fun e W' ⟨he, bel⟩ => ?_
  subst he
  exact ⟨_, rfl, _, _, _, [], _, [], hW', trodAll_mk1 (shut_bool Try.underlying4 _), (trodAll_cons_mk (Below.trod laidOut (by kernel_rfl) (of_decide_eq_true (by kernel_rfl)) k0 bel lt0) (trodAll_cons_mk (shut_int Try.underlying3 w1) (trodAll_cons_mk (Below.trod laidOut (by kernel_rfl) (of_decide_eq_true (by kernel_rfl)) k2 bel lt2) trodAll_mk0))), rfl, bel.frame _, fun h => by cases h⟩

theorem over : Rows.wirePlaysRow.holds Try.pinned (OpenSpec.ofChange Rows.wirePlaysSpec) :=
  OpenClaim.holds_of_wide 12 Try.f12 rfl rfl rfl rfl rfl rfl rfl ⟨rfl, rfl, rfl, rfl, rfl⟩ rfl rfl rfl rfl rfl (by kernel_rfl) Try.func12 (by kernel_rfl)
    (of_decide_eq_true (by kernel_rfl)) (by unfold Func.isWrapper; first | (rw [if_pos (by decide +kernel)]; kernel_rfl) | (rw [if_neg (by decide +kernel)]; exact ⟨rfl, rfl⟩))
    (fun os started H enc _ => lifted os started H enc)

/-- ████ THE STATEMENT ████ -/
theorem proved : Rows.WirePlaysSaid := over
#print axioms proved
end Go.Proofs.Ytodgnlhakafhoaa.wirePlays
