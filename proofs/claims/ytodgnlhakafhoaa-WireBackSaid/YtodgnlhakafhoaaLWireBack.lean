/- What is proved: for every input the Go function avocetlaw04.WireBack returns true and leaves its arguments as they were. Conditions: none beyond the given statement's own. -/
import Derived.Test.YtodgnlhakafhoaaRows
import Derived.WalkKit
import Derived.ProofKit
import Derived.OpenShut
import Derived.Test.YtodgnlhakafhoaaWirN
import Derived.Test.YtodgnlhakafhoaaWirM
import Derived.Lib.SmallJoins
import Derived.Deep.CutBlock
import Derived.ShutString
import Derived.ChangeOld
import Derived.Below
namespace Go.Proofs.Ytodgnlhakafhoaa.wireBack
open Go.ChangeShapes Go.WideShapes Go.ChangeAt Go.RowKit
open Num Mem Wr
open Go.ChangeMaps (open_string shut_string)
set_option linter.unusedVariables false

theorem own : ownKnob Try.prog.godebug = none := by kernel_rfl
theorem laidOut : laidOutB Try.prog = true := by kernel_rfl

/-- WHAT THE WALK IS TOLD OF A SLICE OF INTEGERS THAT CAME IN: it is nil; or it leads to a row of 'cap' cells, the numbers 'zs' (the first 'len' are its elements, the rest its spare room), each fitting its kind. -/
def IsRow (k : IntKind) (w : World) (a : Option Addr) (len cap : Nat) (zs : List Int) : Prop :=
  (a = none ∧ len = 0 ∧ cap = 0 ∧ zs = []) ∨
  ∃ x, a = some x ∧ len ≤ cap ∧ cap ≤ maxLen ∧ zs.length = cap ∧ (∀ i, i < zs.length → w.cell? (x.add i) = some (.int k (zs.getD i 0))) ∧ ∀ n ∈ zs, (Lit.int k n).wf = true

/-! ### STEP 1: THE WALK: the Go text returns true, AND WRITES NOTHING THAT WAS THERE: 'Below w.heap.size w w'' (Derived/Below.lean: '.refl', '.alloc', '.drew', '.setCell' at a new block, '.trans'). Open each 'IsRow' by 'rcases' AHEAD of 'go_enter'; part every test ahead of the walk. -/
set_option maxRecDepth 100000 in
set_option maxHeartbeats 8000000 in
theorem walk (a0 : Int) (a1 : Int) (a2 : Int) (a3 : Option Addr) (len3 cap3 : Nat) (z3 : List Int) (a4 : Option Addr) (len4 cap4 : Nat) (z4 : List Int) (a5 : Option Addr) (len5 cap5 : Nat) (z5 : List Int) (w : World) (w0 : (Lit.int .i64 a0).wf = true) (w1 : (Lit.int .i32 a1).wf = true) (w2 : (Lit.int .u64 a2).wf = true) (w3 : IsRow .u8 w a3 len3 cap3 z3) (w4 : IsRow .u8 w a4 len4 cap4 z4) (w5 : IsRow .u8 w a5 len5 cap5 z5) :
    Calls Try.prog 14 #[.int .i64 a0, .int .i32 a1, .int .u64 a2, .slice a3 len3 cap3, .slice a4 len4 cap4, .slice a5 len5 cap5] w fun e w' => e = .returned (.bool true) ∧ Below w.heap.size w w' := by
  obtain ⟨xs, hr, hlc, hlm⟩ := rd_row w3
  obtain ⟨ys, htr, htlc, htlm⟩ := rd_row w4
  obtain ⟨ts, hqr, hqlc, hqlm⟩ := rd_row w5
  obtain ⟨a0l, a0h⟩ := Fits.i64 w0
  obtain ⟨a1l, a1h⟩ := Fits.i32 w1
  obtain ⟨a2l, a2h⟩ := Fits.u64 w2
  obtain ⟨u, rfl⟩ := Int.eq_ofNat_of_zero_le a2l
  unfold maxLen at hlm htlm hqlm
  have hB : w.heap.size ≤ w.heap.size := Nat.le_refl _
  clear w0 w1 w2 w3 w4 w5
  by_cases hbad : 2000 < len3 ∨ 2000 < len4 ∨ 2000 < len5
  · rcases (show (2000 < len3) ∨ (¬ 2000 < len3 ∧ 2000 < len4) ∨ (¬ 2000 < len3 ∧ ¬ 2000 < len4 ∧ 2000 < len5) by omega) with h | ⟨h, h'⟩ | ⟨h, h', h''⟩
    all_goals
      clear hbad
      go_enter Try.func14, Try.ntmps14
      go_wp2_with fail
      refine (works_any _).mono ?_
      rintro e w3 ⟨rfl, hb3⟩
      go_wp2_with fail
      go_ret
      exact ⟨rfl, hb3⟩
  · have hl := hr.len
    have htl := htr.len
    have hql := hqr.len
    have g1 : ¬ (2000 : Int) < (len3 : Int) := by omega
    have g2 : ¬ (2000 : Int) < (len4 : Int) := by omega
    have g3 : ¬ (2000 : Int) < (len5 : Int) := by omega
    have hp1 := parts_le (u := (zig a1).toNat) (by have := zig_le a1 (by omega) (by omega); omega)
    have hp0 := parts_le (u := (zig a0).toNat) (by have := zig_le a0 (by omega) (by omega); omega)
    have m8 : ((8 : Nat) : Int) = min (max 8 0) 8 := by decide
    have m4 : ((4 : Nat) : Int) = min (max 4 0) 8 := by decide
    have HM8 := Lib.hid m8
    have HM4 := Lib.hid m4
    clear hbad m8 m4
    go_enter Try.func14, Try.ntmps14
    go_wp2_with fail
    refine (works_any _).mono ?_
    rintro e w3 ⟨rfl, hb3⟩
    go_wp2_with fail
    have c1 := putbool_any none 0 0 w.heap.size a0 [] w3 (Own.nil _ _) hb3.size (by omega)
    simp only [Nat.zero_add, List.nil_append] at c1
    refine c1.mono ?_
    clear c1
    rintro e w4 ⟨A4, c4, rfl, ho4, hb4⟩
    have hz4 := hb3.trans hb4
    clear hb3 hb4
    go_wp2_with fail
    refine (Vr.put_any a1 (by omega) (by omega) A4 1 c4 _ w.heap.size w4 ho4 hz4.size (by omega)).mono ?_
    rintro e w5 ⟨A5, c5, rfl, ho5, hb5⟩
    have hz5 := hz4.trans hb5
    clear hz4 hb5 ho4
    generalize parts (zig a1).toNat = P1 at *
    go_wp2_with fail
    refine (Vr.put_any a0 (by omega) (by omega) A5 (1 + P1) c5 _ w.heap.size w5 ho5 hz5.size (by omega)).mono ?_
    rintro e w6 ⟨A6, c6, rfl, ho6, hb6⟩
    have hz6 := hz5.trans hb6
    clear hz5 hb6 ho5
    generalize parts (zig a0).toNat = P0 at *
    obtain ⟨N6, hN6⟩ : ∃ N6, N6 = 1 + P1 + P0 := ⟨_, rfl⟩
    rw [← hN6] at ho6 ⊢
    have hN6b : N6 ≤ 21 := by omega
    clear hN6
    go_wp2_with fail
    refine (putbits_any A6 N6 c6 w.heap.size u 8 8 _ w6 ho6 hz6.size (by omega) (by omega) HM8.out).mono ?_
    rintro e w7 ⟨A7, c7, rfl, ho7, hb7⟩
    have hz7 := hz6.trans hb7
    clear hz6 hb7 ho6
    go_wp2_with fail
    refine (putbits_any A7 (N6 + 8) c7 w.heap.size u 4 4 _ w7 ho7 hz7.size (by omega) (by omega) HM4.out).mono ?_
    rintro e w8 ⟨A8, c8, rfl, ho8, hb8⟩
    have hz8 := hz7.trans hb8
    clear hz7 hb8 ho7
    go_wp2_with fail
    refine (putbytes_any A8 a3 (N6 + 8 + 4) c8 len3 cap3 w.heap.size w.heap.size _ xs w8 ho8 hz8.size (hr.below hz8) hB (by omega) (by omega)).mono ?_
    rintro e w9 ⟨A9, n9, c9, rfl, ho9, hb9⟩
    have hz9 := hz8.trans hb9
    have hn9 : n9 ≤ 3000 := by
      have h7 := ho8.len
      have h8 := ho9.len
      have h9 := parts_le (u := (zig (xs.length : Int)).toNat) (by have := zig_le (xs.length : Int) (by omega) (by omega); omega)
      rw [List.length_append, h7] at h8
      unfold pby at h8
      rw [List.length_append, Vr.vput_len] at h8
      omega
    clear hz8 hb9 ho8
    go_wp2_with fail
    refine (putbytes_any A9 a4 n9 c9 len4 cap4 w.heap.size w.heap.size _ ys w9 ho9 hz9.size (htr.below hz9) hB (by omega) (by omega)).mono ?_
    rintro e w10 ⟨A10, n10, c10, rfl, ho10, hb10⟩
    have hz10 := hz9.trans hb10
    have hn10 : n10 ≤ 6000 := by
      have h7 := ho9.len
      have h8 := ho10.len
      have h9 := parts_le (u := (zig (ys.length : Int)).toNat) (by have := zig_le (ys.length : Int) (by omega) (by omega); omega)
      rw [List.length_append, h7] at h8
      unfold pby at h8
      rw [List.length_append, Vr.vput_len] at h8
      omega
    clear hz9 hb10 ho9
    go_upto_region 9 with (at_builtin; refine wpl_app rfl rfl ho10 rfl (hqr.below hz10) (by omega) hz10.size ?_; intro A c w11 ho11 hb11)
    have hz11 := hz10.trans hb11
    clear hz10 hb11 ho10
    have hrd := ho11.rd
    have hcap := ho11.cap
    have hN := ho11.len
    clear ho11
    obtain ⟨N, hNe⟩ : ∃ N, N = n10 + len5 := ⟨_, rfl⟩
    rw [← hNe] at hrd hcap hN ⊢
    have hNb : N ≤ 8000 := by omega
    obtain ⟨p1, p2, p3, p4, p5, p6, p7, ⟨e11, e12, e13⟩, ⟨e21, e22, e23⟩, ⟨e31, e32, e33⟩, ⟨e41, e42, e43⟩, ⟨e51, e52, e53⟩, ⟨e61, e62, e63⟩, e7, e8, e9⟩ := back_plain a0l a0h a1l a1h (u := u) (by omega) (by omega) (by omega) rfl hN
    generalize hLL : [tb a0] ++ Vr.vput (zig a1).toNat ++ Vr.vput (zig a0).toNat ++ lbs u 8 ++ lbs u 4 ++ pby xs ++ pby ys ++ ts = L at *
    rw [hql] at e8 e9
    -- TAIL
    obtain ⟨b0, hb0⟩ : ∃ b0 : Int, b0 = (if a0 = 0 then 0 else 1) := ⟨_, rfl⟩
    rw [← hb0] at e12
    have HB0 := Lib.hid hb0
    have HU := Lib.hid e7
    have HEN := Lib.hid e9
    have HPE := Lib.hid e8
    obtain ⟨B0, hB0⟩ : ∃ B0, B0 = w11.heap.size := ⟨_, rfl⟩
    have hzB : w.heap.size ≤ B0 := by rw [hB0]; exact hz11.size
    have hBB : B0 ≤ w11.heap.size := by omega
    rw [← hB0] at hrd
    have HC := bool_any A N c B0 0 0 L w11 hrd hBB (by omega) (by omega)
    rw [e11, e12, e13] at HC
    have h21 := int_any A N c B0 p1 0 L
    rw [e21, e22, e23] at h21
    have h31 := long_any A N c B0 p2 0 L
    rw [e31, e32, e33] at h31
    have h41 := fun w h1 h2 h3 h4 => bits_any A N c B0 p3 0 L w h1 h2 h3 h4 8
    rw [e41, e42, e43] at h41
    have h51 := fun w h1 h2 h3 h4 => bits_any A N c B0 p4 0 L w h1 h2 h3 h4 4
    rw [e51, e52, e53] at h51
    have h61 := bytes_any A N c B0 p5 0 L
    rw [e61, e62, e63] at h61
    have h71 := text_any A N c B0 p6 0 L
    have H2 := Lib.hid h21
    have H3 := Lib.hid h31
    have H4 := Lib.hid h41
    have H5 := Lib.hid h51
    have H6 := Lib.hid h61
    have H7 := Lib.hid h71
    clear h21 h31 h41 h51 h61 h71 hb0 e7 e8 e9 e11 e12 e13 e21 e22 e23 e31 e32 e33 e41 e42 e43 e51 e52 e53 e61 e62 e63 hB0 hLL hNe hN a0l a0h hp0 hp1 hN6b hn9 hn10
    go_wp2_with fail
    refine HC.mono ?_
    rintro e w12 ⟨rfl, hb12⟩
    clear HC
    have rd12 := hrd.below' hb12 hBB
    have hz12 := hz11.thn (by omega) hb12
    have hs12 := hb12.size
    clear hb12 hrd hz11
    go_upto_region 10 with fail
    have BX13 : Bxr (w12.alloc (.cells #[.slice A N c, .int .i64 p1, .int .i64 0] 60)) w12.heap.size A N c p1 0 := ⟨⟨by go_simp, by go_simp, by go_simp⟩, by go_simp, by go_simp, by go_simp⟩
    have rd13 := rd12.alloc (by omega) (.cells #[.slice A N c, .int .i64 p1, .int .i64 0] 60)
    have hz13 := hz12.al (by omega) (.cells #[.slice A N c, .int .i64 p1, .int .i64 0] 60)
    have hs13 : w12.heap.size < (w12.alloc (.cells #[.slice A N c, .int .i64 p1, .int .i64 0] 60)).heap.size := by simp
    generalize (w12.alloc (.cells #[.slice A N c, .int .i64 p1, .int .i64 0] 60)) = w13 at *
    obtain ⟨g, hg⟩ : ∃ g, g = w12.heap.size := ⟨_, rfl⟩
    rw [← hg] at BX13 hs13 ⊢
    have hgB : B0 ≤ g := by omega
    clear hg rd12 hz12 hs12 hBB
    obtain ⟨⟨r0, r1, r2⟩, k0, k1, k2⟩ := BX13
    go_wp2_with fail
    refine (H2.out w13 rd13 (by omega) (by omega) (by omega)).mono ?_
    rintro e w14 ⟨rfl, hb14⟩
    have BX14 := Bxr.below ⟨⟨r0, r1, r2⟩, k0, k1, k2⟩ hb14 hs13
    have rd14 := rd13.below' hb14 (by omega)
    have hz14 := hz13.thn (by omega) hb14
    have hs14 : g < w14.heap.size := by have := hb14.size; omega
    clear r0 r1 r2 k0 k1 k2 rd13 hz13 H2
    clear hb14 hs13
    obtain ⟨⟨r0, r1, r2⟩, k0, k1, k2⟩ := BX14
    go_upto_region 11 with fail
    obtain ⟨BX15, hb15, hs15⟩ := store_rd ⟨⟨r0, r1, r2⟩, k0, k1, k2⟩ A N c p2 0
    have rd15 := rd14.below' hb15 hgB
    have hz15 := hz14.trans (hb15.mono (by omega))
    generalize hw15 : ((w14.setCell ⟨g, 0, none⟩ (.slice A N c)).setCell ⟨g, 1, none⟩ (.int .i64 p2)).setCell ⟨g, 2, none⟩ (.int .i64 0) = w15 at BX15 hb15 hs15 rd15 hz15 ⊢
    have hs15' : w15.heap.size = w14.heap.size := hs15
    clear hs15 hw15
    have hs15 : g < w15.heap.size := by omega
    clear r0 r1 r2 k0 k1 k2 rd14 hz14 hb15 hs14 hs15'
    obtain ⟨⟨r0, r1, r2⟩, k0, k1, k2⟩ := BX15
    go_wp2_with fail
    refine (H3.out w15 rd15 (by omega) (by omega) (by omega)).mono ?_
    rintro e w16 ⟨rfl, hb16⟩
    have BX16 := Bxr.below ⟨⟨r0, r1, r2⟩, k0, k1, k2⟩ hb16 hs15
    have rd16 := rd15.below' hb16 (by omega)
    have hz16 := hz15.thn (by omega) hb16
    have hs16 : g < w16.heap.size := by have := hb16.size; omega
    clear r0 r1 r2 k0 k1 k2 rd15 hz15 H3
    clear hb16 hs15
    obtain ⟨⟨r0, r1, r2⟩, k0, k1, k2⟩ := BX16
    go_upto_region 12 with fail
    obtain ⟨BX17, hb17, hs17⟩ := store_rd ⟨⟨r0, r1, r2⟩, k0, k1, k2⟩ A N c p3 0
    have rd17 := rd16.below' hb17 hgB
    have hz17 := hz16.trans (hb17.mono (by omega))
    generalize hw17 : ((w16.setCell ⟨g, 0, none⟩ (.slice A N c)).setCell ⟨g, 1, none⟩ (.int .i64 p3)).setCell ⟨g, 2, none⟩ (.int .i64 0) = w17 at BX17 hb17 hs17 rd17 hz17 ⊢
    have hs17' : w17.heap.size = w16.heap.size := hs17
    clear hs17 hw17
    have hs17 : g < w17.heap.size := by omega
    clear r0 r1 r2 k0 k1 k2 rd16 hz16 hb17 hs16 hs17'
    obtain ⟨⟨r0, r1, r2⟩, k0, k1, k2⟩ := BX17
    go_wp2_with fail
    refine (H4.out w17 rd17 (by omega) (by omega) (by omega)).mono ?_
    rintro e w18 ⟨rfl, hb18⟩
    have BX18 := Bxr.below ⟨⟨r0, r1, r2⟩, k0, k1, k2⟩ hb18 hs17
    have rd18 := rd17.below' hb18 (by omega)
    have hz18 := hz17.thn (by omega) hb18
    have hs18 : g < w18.heap.size := by have := hb18.size; omega
    clear r0 r1 r2 k0 k1 k2 rd17 hz17 H4
    clear hb18 hs17
    obtain ⟨⟨r0, r1, r2⟩, k0, k1, k2⟩ := BX18
    go_upto_region 13 with fail
    obtain ⟨BX19, hb19, hs19⟩ := store_rd ⟨⟨r0, r1, r2⟩, k0, k1, k2⟩ A N c p4 0
    have rd19 := rd18.below' hb19 hgB
    have hz19 := hz18.trans (hb19.mono (by omega))
    generalize hw19 : ((w18.setCell ⟨g, 0, none⟩ (.slice A N c)).setCell ⟨g, 1, none⟩ (.int .i64 p4)).setCell ⟨g, 2, none⟩ (.int .i64 0) = w19 at BX19 hb19 hs19 rd19 hz19 ⊢
    have hs19' : w19.heap.size = w18.heap.size := hs19
    clear hs19 hw19
    have hs19 : g < w19.heap.size := by omega
    clear r0 r1 r2 k0 k1 k2 rd18 hz18 hb19 hs18 hs19'
    obtain ⟨⟨r0, r1, r2⟩, k0, k1, k2⟩ := BX19
    go_wp2_with fail
    refine (H5.out w19 rd19 (by omega) (by omega) (by omega)).mono ?_
    rintro e w20 ⟨rfl, hb20⟩
    have BX20 := Bxr.below ⟨⟨r0, r1, r2⟩, k0, k1, k2⟩ hb20 hs19
    have rd20 := rd19.below' hb20 (by omega)
    have hz20 := hz19.thn (by omega) hb20
    have hs20 : g < w20.heap.size := by have := hb20.size; omega
    clear r0 r1 r2 k0 k1 k2 rd19 hz19 H5
    clear hb20 hs19
    obtain ⟨⟨r0, r1, r2⟩, k0, k1, k2⟩ := BX20
    go_upto_region 14 with fail
    obtain ⟨BX21, hb21, hs21⟩ := store_rd ⟨⟨r0, r1, r2⟩, k0, k1, k2⟩ A N c p5 0
    have rd21 := rd20.below' hb21 hgB
    have hz21 := hz20.trans (hb21.mono (by omega))
    generalize hw21 : ((w20.setCell ⟨g, 0, none⟩ (.slice A N c)).setCell ⟨g, 1, none⟩ (.int .i64 p5)).setCell ⟨g, 2, none⟩ (.int .i64 0) = w21 at BX21 hb21 hs21 rd21 hz21 ⊢
    have hs21' : w21.heap.size = w20.heap.size := hs21
    clear hs21 hw21
    have hs21 : g < w21.heap.size := by omega
    clear r0 r1 r2 k0 k1 k2 rd20 hz20 hb21 hs20 hs21'
    obtain ⟨⟨r0, r1, r2⟩, k0, k1, k2⟩ := BX21
    go_wp2_with fail
    refine (H6.out w21 rd21 (by omega) (by omega) (by omega)).mono ?_
    rintro e w22 ⟨A22, m22, rfl, hy22, hF22, hb22⟩
    have BX22 := Bxr.below ⟨⟨r0, r1, r2⟩, k0, k1, k2⟩ hb22 hs21
    have rd22 := rd21.below' hb22 (by omega)
    have hz22 := hz21.thn (by omega) hb22
    have hs22 : g < w22.heap.size := by have := hb22.size; omega
    clear r0 r1 r2 k0 k1 k2 rd21 hz21 H6
    have hG22 : 0 < m22 → ∀ ad, A22 = some ad → ad.block ≠ g := fun h ad e => by have := hF22 h ad e; omega
    have hy23 := (((hy22.setOther hG22 0 (.slice A N c)).setOther hG22 1 (.int .i64 p6)).setOther hG22 2 (.int .i64 0))
    clear hG22 hy22 hF22
    clear hb22 hs21
    obtain ⟨⟨r0, r1, r2⟩, k0, k1, k2⟩ := BX22
    go_upto_region 15 with fail
    obtain ⟨BX23, hb23, hs23⟩ := store_rd ⟨⟨r0, r1, r2⟩, k0, k1, k2⟩ A N c p6 0
    have rd23 := rd22.below' hb23 hgB
    have hz23 := hz22.trans (hb23.mono (by omega))
    generalize hw23 : ((w22.setCell ⟨g, 0, none⟩ (.slice A N c)).setCell ⟨g, 1, none⟩ (.int .i64 p6)).setCell ⟨g, 2, none⟩ (.int .i64 0) = w23 at hy23 BX23 hb23 hs23 rd23 hz23 ⊢
    have hs23' : w23.heap.size = w22.heap.size := hs23
    clear hs23 hw23
    have hs23 : g < w23.heap.size := by omega
    have hy23 := hy23.more (show w22.heap.size ≤ w23.heap.size by omega)
    clear r0 r1 r2 k0 k1 k2 rd22 hz22 hb23 hs22 hs23'
    obtain ⟨⟨r0, r1, r2⟩, k0, k1, k2⟩ := BX23
    have hxr := hr.below hz23
    have hwk : ∀ (hb : b0 = if a0 = 0 then 0 else 1), (b0 == 1) = (a0 != 0) := by intro hb; subst hb; by_cases h : a0 = 0 <;> simp [h]
    have hbe := hwk HB0.out
    clear hwk
    go_upto_region 17 with (first | (with_reducible refine wpl_str rfl rfl hy23 ?_) | (with_reducible refine wpl_str rfl rfl hxr ?_))
    by_cases hu : (Ut.ucount ys).isSome = true
    · have h7 := H7.out
      have hk := HU.out
      rw [if_pos hu] at hk
      obtain ⟨f1, f2, f3⟩ := hk
      rw [f1, f2, f3] at h7
      clear f1 f2 f3 HU H7
      clear hbe hy23 hxr
      go_wp2_with fail
      refine (h7 w23 rd23 (by omega) (by omega) (by omega)).mono ?_
      rintro e w24 ⟨A24, m24, rfl, hy24, hF24, hb24⟩
      have BX24 := Bxr.below ⟨⟨r0, r1, r2⟩, k0, k1, k2⟩ hb24 hs23
      have rd24 := rd23.below' hb24 (by omega)
      have hz24 := hz23.thn (by omega) hb24
      have hs24 : g < w24.heap.size := by have := hb24.size; omega
      clear r0 r1 r2 k0 k1 k2 rd23 hz23 h7 hF24 hb24 hs23
      obtain ⟨⟨r0, r1, r2⟩, k0, k1, k2⟩ := BX24
      go_upto_region 18 with fail
      have BX25 : Bxr (w24.alloc (.cells #[.slice A N c, .int .i64 p7, .int .i64 0] 60)) w24.heap.size A N c p7 0 := ⟨⟨by go_simp, by go_simp, by go_simp⟩, by go_simp, by go_simp, by go_simp⟩
      have BG25 : Bxr (w24.alloc (.cells #[.slice A N c, .int .i64 p7, .int .i64 0] 60)) g A N c p6 0 := ⟨⟨by go_simp, by go_simp, by go_simp⟩, by go_simp, by go_simp, by go_simp⟩
      have rd25 := rd24.alloc (by omega) (.cells #[.slice A N c, .int .i64 p7, .int .i64 0] 60)
      have hy25 := hy24.alloc (Nat.le_refl _) (.cells #[.slice A N c, .int .i64 p7, .int .i64 0] 60)
      have hz25 := hz24.al (by omega) (.cells #[.slice A N c, .int .i64 p7, .int .i64 0] 60)
      have hs25 : w24.heap.size < (w24.alloc (.cells #[.slice A N c, .int .i64 p7, .int .i64 0] 60)).heap.size := by simp
      obtain ⟨f, hf⟩ : ∃ f, f = w24.heap.size := ⟨_, rfl⟩
      have hyl := hy24.len
      generalize (w24.alloc (.cells #[.slice A N c, .int .i64 p7, .int .i64 0] 60)) = w25 at *
      rw [← hf] at BX25 hs25 hy25 ⊢
      clear hf hy24 rd24 hz24 hs24 r0 r1 r2 k0 k1 k2
      obtain ⟨⟨r0, r1, r2⟩, k0, k1, k2⟩ := BX25
      obtain ⟨⟨t0, t1, t2⟩, _, _, _⟩ := BG25
      have htr25 := htr.below hz25
      go_wp2_with fail
      refine (Ut.right_any a4 len4 cap4 w.heap.size ys w25 htr25 (by omega)).mono ?_
      rintro e w26 ⟨rfl, rfl⟩
      have hpe : (N : Int) - p7 = len5 := by have := HPE.out; omega
      have hen := HEN.out
      clear HPE HEN
      rcases Nat.eq_zero_or_pos len5 with h5 | h5
      · subst h5
        rw [if_pos rfl] at hen
        go_wp2_with (first | (with_reducible refine wpl_str rfl rfl hy25 ?_) | (with_reducible refine wpl_str rfl rfl htr25 ?_))
        refine (end_any A N c p7 0 w25).mono ?_
        rw [hen]
        rintro e w27 ⟨rfl, hb27⟩
        clear hen
        go_wp2_with fail
        go_ret
        exact ⟨rfl, hz25.thn hB hb27⟩
      · rw [if_neg (by omega)] at hen
        have h50 : ((len5 : Int) == 0) = false := by simp; omega
        have h51 : ¬ len5 = 0 := by omega
        go_wp2_with (first | (with_reducible refine wpl_str rfl rfl hy25 ?_) | (with_reducible refine wpl_str rfl rfl htr25 ?_))
        refine (end_any A N c p7 0 w25).mono ?_
        rw [hen]
        rintro e w27 ⟨rfl, hb27⟩
        clear hen
        go_wp2_with fail
        go_ret
        exact ⟨rfl, hz25.thn hB hb27⟩
    · have h7 := H7.out
      have hk := HU.out
      rw [if_neg hu] at hk
      obtain ⟨f1, f2, f3⟩ := hk
      rw [f1, f2, f3] at h7
      clear f1 f2 f3 HU H7
      have hu' : (Ut.ucount ys).isSome = false := by simpa using hu
      clear hu
      clear hbe hy23 hxr
      go_wp2_with fail
      refine (h7 w23 rd23 (by omega) (by omega) (by omega)).mono ?_
      rintro e w24 ⟨A24, m24, rfl, hy24, hF24, hb24⟩
      have BX24 := Bxr.below ⟨⟨r0, r1, r2⟩, k0, k1, k2⟩ hb24 hs23
      have rd24 := rd23.below' hb24 (by omega)
      have hz24 := hz23.thn (by omega) hb24
      have hs24 : g < w24.heap.size := by have := hb24.size; omega
      clear r0 r1 r2 k0 k1 k2 rd23 hz23 h7 hF24 hb24 hs23
      obtain ⟨⟨r0, r1, r2⟩, k0, k1, k2⟩ := BX24
      go_upto_region 18 with fail
      have BX25 : Bxr (w24.alloc (.cells #[.slice A N c, .int .i64 p6, .int .i64 11] 60)) w24.heap.size A N c p6 11 := ⟨⟨by go_simp, by go_simp, by go_simp⟩, by go_simp, by go_simp, by go_simp⟩
      have BG25 : Bxr (w24.alloc (.cells #[.slice A N c, .int .i64 p6, .int .i64 11] 60)) g A N c p6 0 := ⟨⟨by go_simp, by go_simp, by go_simp⟩, by go_simp, by go_simp, by go_simp⟩
      have rd25 := rd24.alloc (by omega) (.cells #[.slice A N c, .int .i64 p6, .int .i64 11] 60)
      have hy25 := hy24.alloc (Nat.le_refl _) (.cells #[.slice A N c, .int .i64 p6, .int .i64 11] 60)
      have hz25 := hz24.al (by omega) (.cells #[.slice A N c, .int .i64 p6, .int .i64 11] 60)
      have hs25 : w24.heap.size < (w24.alloc (.cells #[.slice A N c, .int .i64 p6, .int .i64 11] 60)).heap.size := by simp
      obtain ⟨f, hf⟩ : ∃ f, f = w24.heap.size := ⟨_, rfl⟩
      have hyl := hy24.len
      generalize (w24.alloc (.cells #[.slice A N c, .int .i64 p6, .int .i64 11] 60)) = w25 at *
      rw [← hf] at BX25 hs25 hy25 ⊢
      clear hf hy24 rd24 hz24 hs24 r0 r1 r2 k0 k1 k2
      obtain ⟨⟨r0, r1, r2⟩, k0, k1, k2⟩ := BX25
      obtain ⟨⟨t0, t1, t2⟩, _, _, _⟩ := BG25
      have htr25 := htr.below hz25
      go_wp2_with fail
      refine (Ut.right_any a4 len4 cap4 w.heap.size ys w25 htr25 (by omega)).mono ?_
      rintro e w26 ⟨rfl, rfl⟩
      have hm0 : m24 = 0 := by simpa using hyl.symm
      subst hm0
      go_wp2_with fail
      go_ret
      exact ⟨rfl, hz25⟩

/-! ### THE ROW's STEP: WRITTEN OUT: LEAVE IT -/
set_option maxRecDepth 100000 in
theorem lifted (os : Os) (started : os.Started) (H : Type) (enc : TypeId × Value → H) :
    ReturnsInHanded {} Try.checked os 14 .any (Rows.wireBackSpec.pre6 enc Try.prog Try.f14 Rows.wireBackRow.domain false) (Rows.wireBackSpec.post enc Try.prog Try.f14 false true false false) := by
  refine returnsInHanded_of_change (C := Try.checked) own started (by kernel_rfl) Try.func14
    (ChangeSpec.witness6 (enc := enc) (C := Try.checked) false ⟨#[], #[.int .i64 0, .int .i32 0, .int .u64 0, .slice none 0 0, .slice none 0 0, .slice none 0 0], []⟩ 8 (by kernel_rfl) (by kernel_rfl) (by kernel_rfl) (by kernel_rfl)) ?_
  intro W base args ds gs before hval0 hW hcnd _
  have hval : ∀ (j : Nat) t v, Try.f14.params[j]? = some t → args[j]? = some v → Value.okWide Try.prog W .any base t v := hval0
  have hW' := hW
  obtain ⟨p, q, hA0, hV, rfl, hfz, hnd⟩ := hW
  have hA : DataW.TrodAll enc Try.prog W 0 (fun _ => true) true Try.f14.params.toList args.toList ds p := hA0
  rw [Try.params14] at hA hval
  obtain ⟨v0, vs0, d0, ds0, p0, q0, hargs, rfl, rfl, h0, r0⟩ := trodAll_cons hA
  obtain ⟨v1, vs1, d1, ds1, p1, q1, rfl, rfl, rfl, h1, r1⟩ := trodAll_cons r0
  obtain ⟨v2, vs2, d2, ds2, p2, q2, rfl, rfl, rfl, h2, r2⟩ := trodAll_cons r1
  obtain ⟨v3, vs3, d3, ds3, p3, q3, rfl, rfl, rfl, h3, r3⟩ := trodAll_cons r2
  obtain ⟨v4, vs4, d4, ds4, p4, q4, rfl, rfl, rfl, h4, r4⟩ := trodAll_cons r3
  obtain ⟨v5, vs5, d5, ds5, p5, q5, rfl, rfl, rfl, h5, r5⟩ := trodAll_cons r4
  obtain ⟨rfl, rfl, rfl⟩ := trodAll_nil r5
  obtain rfl : args = #[v0, v1, v2, v3, v4, v5] := by cases args; simp_all
  obtain ⟨rfl, rfl⟩ := trodVars_none hV
  obtain ⟨a0, rfl, rfl, rfl, w0⟩ := open_int Try.underlying2 (hval 0 2 v0 rfl rfl) h0
  obtain ⟨a1, rfl, rfl, rfl, w1⟩ := open_int Try.underlying21 (hval 1 21 v1 rfl rfl) h1
  obtain ⟨a2, rfl, rfl, rfl, w2⟩ := open_int Try.underlying52 (hval 2 52 v2 rfl rfl) h2
  obtain ⟨a3, len3, cap3, rfl⟩ := okWide_slice Try.underlying22 (hval 3 22 v3 rfl rfl)
  have k3 := h3
  have lt3 : ∀ x ∈ p3, x.block < W.heap.size := by obtain ⟨m, hm⟩ := k3; exact DataW.trod_lt m _ _ _ hm
  obtain ⟨z3, w3⟩ : ∃ zs, IsRow .u8 W a3 len3 cap3 zs := by
    obtain ⟨fuel, hf⟩ := h3
    rcases open_ints Try.underlying22 Try.underlying5 (by kernel_rfl) hf with ⟨hcs, _⟩ | ⟨x, l, c, zs, hcs, _, hl, hm, hz, _, hcell, hwz⟩
    · simp [Value.cells] at hcs
      obtain ⟨rfl, rfl, rfl⟩ := hcs
      exact ⟨[], .inl ⟨rfl, rfl, rfl, rfl⟩⟩
    · simp [Value.cells] at hcs
      obtain ⟨rfl, rfl, rfl⟩ := hcs
      exact ⟨zs, .inr ⟨_, rfl, hl, hm, by simpa using hz, hcell, hwz⟩⟩
  obtain ⟨a4, len4, cap4, rfl⟩ := okWide_slice Try.underlying22 (hval 4 22 v4 rfl rfl)
  have k4 := h4
  have lt4 : ∀ x ∈ p4, x.block < W.heap.size := by obtain ⟨m, hm⟩ := k4; exact DataW.trod_lt m _ _ _ hm
  obtain ⟨z4, w4⟩ : ∃ zs, IsRow .u8 W a4 len4 cap4 zs := by
    obtain ⟨fuel, hf⟩ := h4
    rcases open_ints Try.underlying22 Try.underlying5 (by kernel_rfl) hf with ⟨hcs, _⟩ | ⟨x, l, c, zs, hcs, _, hl, hm, hz, _, hcell, hwz⟩
    · simp [Value.cells] at hcs
      obtain ⟨rfl, rfl, rfl⟩ := hcs
      exact ⟨[], .inl ⟨rfl, rfl, rfl, rfl⟩⟩
    · simp [Value.cells] at hcs
      obtain ⟨rfl, rfl, rfl⟩ := hcs
      exact ⟨zs, .inr ⟨_, rfl, hl, hm, by simpa using hz, hcell, hwz⟩⟩
  obtain ⟨a5, len5, cap5, rfl⟩ := okWide_slice Try.underlying22 (hval 5 22 v5 rfl rfl)
  have k5 := h5
  have lt5 : ∀ x ∈ p5, x.block < W.heap.size := by obtain ⟨m, hm⟩ := k5; exact DataW.trod_lt m _ _ _ hm
  obtain ⟨z5, w5⟩ : ∃ zs, IsRow .u8 W a5 len5 cap5 zs := by
    obtain ⟨fuel, hf⟩ := h5
    rcases open_ints Try.underlying22 Try.underlying5 (by kernel_rfl) hf with ⟨hcs, _⟩ | ⟨x, l, c, zs, hcs, _, hl, hm, hz, _, hcell, hwz⟩
    · simp [Value.cells] at hcs
      obtain ⟨rfl, rfl, rfl⟩ := hcs
      exact ⟨[], .inl ⟨rfl, rfl, rfl, rfl⟩⟩
    · simp [Value.cells] at hcs
      obtain ⟨rfl, rfl, rfl⟩ := hcs
      exact ⟨zs, .inr ⟨_, rfl, hl, hm, by simpa using hz, hcell, hwz⟩⟩
  clear hA0 hval0
  refine (walk a0 a1 a2 a3 len3 cap3 z3 a4 len4 cap4 z4 a5 len5 cap5 z5 W w0 w1 w2 w3 w4 w5).mono fun e W' ⟨he, bel⟩ => ?_
  subst he
  exact ⟨_, rfl, _, _, _, [], _, [], hW', trodAll_mk1 (shut_bool Try.underlying4 _), (trodAll_cons_mk (shut_int Try.underlying2 w0) (trodAll_cons_mk (shut_int Try.underlying21 w1) (trodAll_cons_mk (shut_int Try.underlying52 w2) (trodAll_cons_mk (Below.trod laidOut (by kernel_rfl) (of_decide_eq_true (by kernel_rfl)) k3 bel lt3) (trodAll_cons_mk (Below.trod laidOut (by kernel_rfl) (of_decide_eq_true (by kernel_rfl)) k4 bel lt4) (trodAll_cons_mk (Below.trod laidOut (by kernel_rfl) (of_decide_eq_true (by kernel_rfl)) k5 bel lt5) trodAll_mk0)))))), rfl, bel.frame _, fun h => by cases h⟩

theorem over : Rows.wireBackRow.holds Try.pinned (OpenSpec.ofChange Rows.wireBackSpec) :=
  OpenClaim.holds_of_wide 14 Try.f14 rfl rfl rfl rfl rfl rfl rfl ⟨rfl, rfl, rfl, rfl, rfl⟩ rfl rfl rfl rfl rfl (by kernel_rfl) Try.func14 (by kernel_rfl)
    (of_decide_eq_true (by kernel_rfl)) (by unfold Func.isWrapper; first | (rw [if_pos (by decide +kernel)]; kernel_rfl) | (rw [if_neg (by decide +kernel)]; exact ⟨rfl, rfl⟩))
    (fun os started H enc _ => lifted os started H enc)

/-- ████ THE STATEMENT ████ -/
theorem proved : Rows.WireBackSaid := over
#print axioms proved
end Go.Proofs.Ytodgnlhakafhoaa.wireBack
