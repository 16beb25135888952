import Derived.Test.YtccjlcadbpinfaaGreatDoorRows
import Derived.WalkKit
import Derived.ProofKit
import Derived.OpenShut
import Derived.Outline
import Derived.WalkLawsBesides
import Derived.Lib.Hide
import Derived.Deep.LoopGhost
import Derived.Laws.BytesArg
import Derived.Maps.AppendAt
import Derived.Deep.AppendLies
import Derived.Laws.AppendOwnNone
import Derived.Deep.Draws
import Derived.Laws.BitsAllLaws
import Derived.Deep.Cut
import Derived.Deep.DeepMust
set_option linter.all false
namespace Go.Proofs.YtccjlcadbpinfaaGreatDoor
open ChangeShapes WideShapes ChangeAt RowKit
abbrev rz:=@Lib.hid
abbrev rA:=@beq_eq_false_iff_ne
abbrev rB:=@if_neg
abbrev rC:=@List.set_cons_zero
abbrev rD:=@List.getElem?_eq_getElem
abbrev rF:=@List.set_cons_succ
abbrev rG:=@if_pos
abbrev rH:=@List.setIfInBounds_toArray
abbrev rI:=@decide_eq_false
abbrev rK:=@World.cell?_of_block
abbrev rL:=@List.length_append
abbrev rM:=@List.drop_eq_getElem_cons
abbrev rO:=@Bool.and_eq_true
abbrev rP:=@List.length_cons
abbrev rQ:=@List.getElem?_eq_some_iff
abbrev rS:=@Nat.lt_of_lt_of_le
abbrev rT:=@List.eq_nil_of_length_eq_zero
abbrev rU:=@List.mem_of_getElem?
abbrev rY:=@decide_eq_true
abbrev rZ:=@Nat.le_refl
abbrev sb:=@Nat.zero_le
abbrev sc:=@bodyPost_ret
abbrev sd:=@decide_eq_true_eq
abbrev si:=@List.cons_append
abbrev sj:=@List.getElem_mem
abbrev sk:=@Bool.true_and
abbrev sl:=@List.length_nil
abbrev sn:=@Nat.le_trans
abbrev so:=@List.nil_append
abbrev sq:=@Option.some.injEq
abbrev su:=@Int.toNat_natCast
abbrev sw:=@List.append_assoc
abbrev sx:=@List.drop_eq_nil_of_le
abbrev sD:=@List.mem_cons
abbrev sE:=@Nat.add_zero
abbrev sI:=@List.mem_append
abbrev sJ:=@List.mem_singleton
abbrev sP:=@World.frozen?_of_block
abbrev sU:=@List.length_drop
abbrev sX:=@List.append_nil
abbrev tg:=@World.cell?_setCell_other
abbrev th:=@Nat.lt_of_le_of_lt
abbrev ti:=@List.mem_map
abbrev tl:=@beq_iff_eq
abbrev tq:=@Nat.zero_add
abbrev tu:=@List.getElem?_eq_none
abbrev tD:=@List.drop_of_length_le
abbrev tE:=@Nat.lt_or_ge
abbrev tG:=@BigFrame.wpList_want
abbrev tL:=@Nat.mul_one
abbrev tM:=@Bool.not_true
abbrev tN:=@List.length_map
abbrev tO:=@Bool.false_and
abbrev tP:=@Tryz.underlying22
abbrev tQ:=@Tryz.underlying58
abbrev tR:=@results_none
abbrev tU:=@UInt8.toNat_inj
abbrev ua:=@Result.andThen_ok
abbrev ub:=@Tryz.underlying25
abbrev ud:=@Tryz.underlying77
abbrev uh:=@List.getElem_append_right
abbrev uj:=@List.mem_cons_self
abbrev uv:=@bodyPost_end
abbrev uy:=@if_true
abbrev uA:=@Bool.false_or
abbrev uB:=@List.length_set
abbrev uG:=@List.getElem?_set
abbrev uH:=@World.ownsRow_nil
abbrev uJ:=@Sem.run_bind
abbrev uR:=@Int.eq_ofNat_of_zero_le
abbrev uS:=@List.mem_cons_of_mem
abbrev uT:=@List.not_mem_nil
abbrev uU:=@wpOp_mono
abbrev vm:=@Array.getElem?_eq_some_iff
abbrev vo:=@List.flatten_cons
abbrev vq:=@Option.map_eq_some_iff
abbrev vu:=@run_append_own_at
abbrev vx:=@List.getElem_of_mem
abbrev vE:=@List.getElem?_eq_none_iff
abbrev vH:=@World.frozen?_setCell
abbrev vJ:=@Tryz.underlying3
abbrev vP:=@List.getElem_append_left
abbrev vQ:=@List.set_set
abbrev vR:=@Sem.run_pure
abbrev wg:=@List.getElem?_map
abbrev wF:=@decide_true
abbrev wG:=@List.all_eq_true
abbrev wH:=@List.ext_getElem
abbrev wL:=@IntWalk.i64_in
abbrev wW:=@List.mem_append_right
abbrev wX:=@List.sizeOf_lt_of_mem
abbrev xm:=@Option.map_some
abbrev xt:=@Bool.not_eq_true'
abbrev xv:=@UInt8.ofNat_toNat
abbrev xy:=@if_false
abbrev xA:=@Bool.and_true
abbrev xB:=@List.map_cons
abbrev xG:=@info_parts
abbrev xO:=@List.flatMap_append
abbrev xP:=@List.length_reverse
abbrev xT:=@Bool.not_false
abbrev xU:=@Nat.lt_succ_self
abbrev xV:=@Tryz.underlying9
abbrev xW:=@World.block_lt_of_cell?
abbrev xY:=@decide_eq_false_iff_not
abbrev yk:=@rounds_succ
abbrev yl:=@Addr.add_lit
abbrev ym:=@Bool.false_eq_true
abbrev yn:=@List.getElem?_take
abbrev yo:=@List.take_of_length_le
abbrev yD:=@List.map_append
abbrev yE:=@Tryz.ntmps100
abbrev yI:=@Lib.run_eql_slice_nil
abbrev yJ:=@List.length_replicate
abbrev zc:=@List.take_add_one
abbrev zf:=@List.drop_zero
abbrev zg:=@List.getElem?_append_right
abbrev zh:=@Region.noSelect_spec
abbrev zA:=@Bool.true_or
abbrev zB:=@List.drop_length
abbrev zC:=@List.length_take
abbrev zD:=@Nat.le_of_eq
abbrev zE:=@Nat.le_of_lt
abbrev zF:=@Nat.succ_mul
abbrev zG:=@Nat.zero_mul
abbrev zH:=@Tryz.func100
abbrev zI:=@Tryz.ntmps51
abbrev zK:=@decide_eq_decide
abbrev zU:=@List.pairwise_iff_getElem
abbrev zV:=@List.drop_succ_cons
abbrev Aj:=@Bool.eq_iff_iff
abbrev Ak:=@Ne.symm
abbrev Ar:=@List.getElem?_drop
abbrev Aw:=@World.ownsRow_made
abbrev AN:=@Tryz.func51
abbrev AO:=@cell_of_row
abbrev Bf:=@List.drop_drop
abbrev Bg:=@List.flatMap_cons
abbrev Bh:=@List.length_pos_of_mem
abbrev Bs:=@of_decide_eq_true
abbrev Bt:=@run_underlying
abbrev BX:=@List.contains_iff_mem
abbrev B2:=@Region.free_spec
abbrev Cr:=@Bool.or_false
abbrev Cs:=@Nat.add_assoc
abbrev Cz:=@Int.le_refl
abbrev CA:=@List.getElem?_of_mem
abbrev CB:=@List.mem_append_left
abbrev CF:=@congrArg
abbrev CI:=@or_false
abbrev CL:=@Bool.or_eq_true
abbrev CN:=@Exit.noGoto_ret
abbrev Dv:=@decide_false
abbrev DG:=@Option.isSome_none
abbrev DH:=@Option.isSome_some
abbrev DI:=@UInt8.toNat_ofNat'
abbrev D3:=@Classical.byContradiction
abbrev D8:=@List.getElem?_append_left
abbrev EG:=@DataW.trod_struct
abbrev EI:=@Tryz.underlying30
abbrev EJ:=@Tryz.underlying76
abbrev EO:=@List.all_cons
abbrev ER:=@Nat.lt_irrefl
abbrev EV:=@Tryz.ntmps153
abbrev EW:=@Tryz.ntmps182
abbrev EX:=@Tryz.ntmps241
abbrev EY:=@World.cell?_setCell_same
abbrev Ga:=@Bool.not_eq_true
abbrev Gb:=@Tryz.underlying5
abbrev GS:=@Nat.sub_self
abbrev GW:=@Tryz.func129
abbrev GX:=@Tryz.func153
abbrev GY:=@Tryz.func182
abbrev GZ:=@Tryz.func241
abbrev Ib:=@ready_mono
abbrev IE:=@Bool.and_eq_false_iff
abbrev IH:=@List.length_singleton
abbrev II:=@List.take_append_drop
abbrev JQ:=@Array.replicate_succ
abbrev JR:=@Array.replicate_zero
abbrev JT:=@Bool.and_false
abbrev JV:=@List.drop_eq_nil_iff
abbrev Ka:=@WideElems.Trod_stays
abbrev Ky:=@heap_alloc_new
abbrev Kz:=@heap_alloc_old
abbrev Lq:=@wp_loop_rounds
abbrev LJ:=@List.append_toArray
abbrev LK:=@List.flatten_append
abbrev LL:=@List.map_congr_left
abbrev LM:=@List.takeWhile_cons
abbrev Nq:=@Tryz.ntmps262
abbrev NG:=@List.mem_replicate
abbrev NM:=@Tryz.underlying136
abbrev QI:=@Bool.or_true
abbrev QK:=@DataW.trod_string
abbrev QQ:=@List.any_eq_false
abbrev QR:=@List.push_toArray
abbrev QS:=@List.reverse_cons
abbrev QT:=@List.size_toArray
abbrev QU:=@Nat.add_comm
abbrev QV:=@Nat.pow_succ
abbrev QZ:=@Tryz.func262
abbrev Q0:=@Tryz.underlying32
abbrev Tk:=@List.getElem_map
abbrev Tl:=@List.getElem_set
abbrev Tm:=@List.take_length
abbrev Tr:=@Nat.div_eq_of_lt
abbrev TJ:=@Tryz.underlying4
abbrev U5:=@not_or
abbrev WB:=@List.map_id
abbrev WC:=@Tryz.func46
abbrev WK:=@leaves_cons
abbrev afs:=List UInt8
abbrev aft:=Option Addr
abbrev afu:=Nat->Prop
abbrev afv(w:World)(v:World):Prop:=Below w.heap.size w v
theorem afw(w:World):Below w.heap.size w w:=Below.refl _ w
variable{P Q:Prop}
open Go.RowKit in theorem rV{n:Nat}:n<=n:=Nat.le_refl n
open Go.RowKit in theorem xn{B:Nat}{w:World}:Below B w w:=Below.refl B w
def ac(k:Q)(h:Hid Q->P:=by intro zz;(repeat((first|(refine tm rfl rfl rfl bo ?_)|(refine tB rfl rfl rfl ?_)|(refine tH rfl rfl rfl (g+1) V _ (by intro w' hb;obtain⟨⟨z0,z1,z2,z3⟩,_,_,_⟩:=xl.below GM.out hb V;clear hb;go_simp;first|done|with_reducible rfl) ?_));simp only[Act.put,List.setIfInBounds_toArray,List.set_cons_zero,List.set_cons_succ]));exact zz.out):=h k
def ae(k:Q)(h:Hid Q->P:=by intro zz;(repeat((first|(refine tm rfl rfl rfl bo ?_));simp only[Act.put,List.setIfInBounds_toArray,List.set_cons_zero,List.set_cons_succ]));exact zz.out):=h k
def ag(k:Q)(h:Hid Q->P:=by intro zz;(repeat((first|(refine tm rfl rfl rfl bo ?_)|(refine tB rfl rfl rfl ?_)|(refine L8 rfl rfl rfl ?_)|(refine tH rfl rfl rfl (g+1) V _ nT ?_));simp only[Act.put,List.setIfInBounds_toArray,List.set_cons_zero,List.set_cons_succ]));exact zz.out):=h k
def ah(k:Q)(h:Hid Q->P:=by intro zz;(repeat((first|(refine tp rfl rfl rfl bo ?_)|(refine tF rfl rfl rfl ?_));simp only[Act.put,List.setIfInBounds_toArray,List.set_cons_zero,List.set_cons_succ]));exact zz.out):=h k
def ai(k:Q)(h:Hid Q->P:=by intro zz;(repeat((first|(refine tm rfl rfl rfl bo ?_)|(refine tB rfl rfl rfl ?_));simp only[Act.put,List.setIfInBounds_toArray,List.set_cons_zero,List.set_cons_succ]));exact zz.out):=h k
def aj(k:Q)(h:Hid Q->P:=by intro zz;(repeat((first|(refine tp rfl rfl rfl bo ?_)|(refine tF rfl rfl rfl ?_)|(refine tA rfl rfl rfl (we.heap.size) V _ (by intro w' hb;have y0:=(hb.cell ⟨l,0,none⟩ bl cM).trans e0';clear hb;go_simp;first|done|with_reducible rfl) ?_));simp only[Act.put,List.setIfInBounds_toArray,List.set_cons_zero,List.set_cons_succ]));exact zz.out):=h k
def ak(k:Q)(h:Hid Q->P:=by intro zz;(repeat((first|(refine tm rfl rfl rfl bo ?_)|(refine tB rfl rfl rfl ?_)|(refine tH rfl rfl rfl (g+1) V _ (by intro w' hb;have y0:=(hb.cell (p:=rN g 1) bl).trans r1;clear hb;go_simp;first|done|with_reducible rfl) ?_));simp only[Act.put,List.setIfInBounds_toArray,List.set_cons_zero,List.set_cons_succ]));exact zz.out):=h k
def am(k:Q)(h:Hid Q->P:=by intro zz;(repeat((first|(refine tp rfl rfl rfl bo ?_)|(refine tF rfl rfl rfl ?_)|(refine tA rfl rfl rfl (we.heap.size) V _ bJ ?_));simp only[Act.put,List.setIfInBounds_toArray,List.set_cons_zero,List.set_cons_succ]));exact zz.out):=h k
def ao(k:Q)(h:Hid Q->P:=by intro zz;(repeat((first|(refine tp rfl rfl rfl bo ?_)|(refine tF rfl rfl rfl ?_)|(refine tA rfl rfl rfl (f+1) V _ (by intro w' hb;have y0:=(hb.cell ⟨f,0,none⟩ bl cM).trans f0;have y1:=(hb.cell ⟨f,1,none⟩ bl cM).trans f1;have y2:=(hb.cell ⟨f,2,none⟩ bl cM).trans f2;have y3:=(hb.cell ⟨f,3,none⟩ bl cM).trans f3;have y4:=(hb.cell ⟨f,4,none⟩ bl cM).trans f4;clear hb;go_simp;first|done|with_reducible rfl) ?_));simp only[Act.put,List.setIfInBounds_toArray,List.set_cons_zero,List.set_cons_succ]));exact zz.out):=h k
def ap(k:Q)(h:Hid Q->P:=by intro zz;(repeat((first|(refine tp rfl rfl rfl bo ?_)|(refine tF rfl rfl rfl ?_)|(refine tA rfl rfl rfl (f+1) V _ bJ ?_));simp only[Act.put,List.setIfInBounds_toArray,List.set_cons_zero,List.set_cons_succ]));exact zz.out):=h k
def aq(k:Q)(h:Hid Q->P:=by intro zz;(repeat((first|(refine wM rfl rfl rfl rfl bo ?_)|(refine wO rfl rfl rfl rfl ?_)|(refine wN rfl rfl rfl rfl (w.heap.size+1) V _ bJ ?_));simp only[Act.put,List.setIfInBounds_toArray,List.set_cons_zero,List.set_cons_succ]));exact zz.out):=h k
def au(k:Q)(h:Hid Q->P:=by intro zz;(repeat((first|(refine tm rfl rfl rfl bo ?_)|(refine tB rfl rfl rfl ?_)|(refine tH rfl rfl rfl (w.heap.size+1) V _ (by intro w' hb;have y0:=(hb.cell (p:=rN w.heap.size 3) bl).trans b3;have y1:=(hb.cell (p:=rN w.heap.size 4) bl).trans b4;clear hb;go_simp;first|done|with_reducible rfl) ?_));simp only[Act.put,List.setIfInBounds_toArray,List.set_cons_zero,List.set_cons_succ]));exact zz.out):=h k
def av(k:Q)(h:Hid Q->P:=by intro zz;(repeat((first|(refine tm rfl rfl rfl bo ?_)|(refine tB rfl rfl rfl ?_)|(refine tH rfl rfl rfl (w.heap.size+1) V _ (by intro w' hb;have y0:=(hb.cell (p:=rN w.heap.size 3) bl).trans d3;have y1:=(hb.cell (p:=rN w.heap.size 4) bl).trans d4;clear hb;go_simp;first|done|with_reducible rfl) ?_));simp only[Act.put,List.setIfInBounds_toArray,List.set_cons_zero,List.set_cons_succ]));exact zz.out):=h k
def aw(k:Q)(h:Hid Q->P:=by intro zz;(repeat((first|(refine tm rfl rfl rfl bo ?_)|(refine tB rfl rfl rfl ?_)|(refine tH rfl rfl rfl (w.heap.size+1) V _ bJ ?_));simp only[Act.put,List.setIfInBounds_toArray,List.set_cons_zero,List.set_cons_succ]));exact zz.out):=h k
def ax(k:Q)(h:Hid Q->P:=by intro zz;(repeat((first|(refine tm rfl rfl rfl bo ?_)|(refine tB rfl rfl rfl ?_)|(refine tH rfl rfl rfl (w.heap.size+1) V _ (by intro w' hb;have y0:=(hb.cell (p:=rN w.heap.size 1) bl).trans b1;have y1:=(hb.cell (p:=rN w.heap.size 2) bl).trans b2;have y2:=(hb.cell (p:=rN w.heap.size 3) bl).trans b3;have y3:=(hb.cell (p:=rN w.heap.size 4) bl).trans b4;have y4:=(hb.cell (p:=rN w.heap.size 5) bl).trans b5;have y5:=(hb.cell (p:=rN w.heap.size 6) bl).trans b6;have y6:=(hb.cell (p:=rN w.heap.size 7) bl).trans b7;have y7:=(hb.cell (p:=rN w.heap.size 8) bl).trans b8;have y8:=(hb.cell (p:=rN w.heap.size 9) bl).trans b9;clear hb;go_simp;first|done|with_reducible rfl) ?_));simp only[Act.put,List.setIfInBounds_toArray,List.set_cons_zero,List.set_cons_succ]));exact zz.out):=h k
def ay(k:Q)(h:Hid Q->P:=by intro zz;(repeat((first|(refine tm rfl rfl rfl bo ?_)|(refine tB rfl rfl rfl ?_)|(refine tH rfl rfl rfl (w.heap.size) V _ (by intro w' hb;have y0:=(hb.cell (p:=rN b6 0) bl).trans d6;have y1:=(hb.cell (p:=rN b7 0) bl).trans d7;have y2:=(hb.cell (p:=rN b2 0) bl).trans d2;have y3:=(hb.cell (p:=rN q (p+j*10)) bl).trans e0;clear hb;go_simp;first|done|with_reducible rfl) ?_));simp only[Act.put,List.setIfInBounds_toArray,List.set_cons_zero,List.set_cons_succ]));exact zz.out):=h k
def aA(k:Q)(h:Hid Q->P:=by intro zz;(repeat((first|(refine tm rfl rfl rfl bo ?_)|(refine tB rfl rfl rfl ?_)|(refine tH rfl rfl rfl (w.heap.size+2) V _ (by intro w' hb;have y0:=(hb.cell (p:=rN (w.heap.size+1) 4) bl).trans b4;have y1:=(hb.cell (p:=rN (w.heap.size+1) 5) bl).trans b5;have y2:=(hb.cell (p:=rN (w.heap.size+1) 6) bl).trans b6;clear hb;go_simp;first|done|with_reducible rfl) ?_));simp only[Act.put,List.setIfInBounds_toArray,List.set_cons_zero,List.set_cons_succ]));exact zz.out):=h k
def aB(k:Q)(h:Hid Q->P:=by intro zz;(repeat((first|(refine tp rfl rfl rfl bo ?_)|(refine tF rfl rfl rfl ?_)|(refine tA rfl rfl rfl (w.heap.size+1) V _ (by intro w' hb;have y0:=(hb.cell ⟨w.heap.size,0,none⟩ bl cM).trans d0;have y1:=(hb.cell ⟨w.heap.size,1,none⟩ bl cM).trans d1;clear hb;go_simp;first|done|with_reducible rfl) ?_));simp only[Act.put,List.setIfInBounds_toArray,List.set_cons_zero,List.set_cons_succ]));exact zz.out):=h k
def aC(k:Q)(h:Hid Q->P:=by intro zz;(repeat((first|(refine tp rfl rfl rfl bo ?_)|(refine tF rfl rfl rfl ?_)|(refine tA rfl rfl rfl (w.heap.size+1) V _ (by intro w' hb;have y0:=(hb.cell ⟨w.heap.size,0,none⟩ bl cM).trans e0;have y1:=(hb.cell ⟨w.heap.size,1,none⟩ bl cM).trans e1;clear hb;go_simp;first|done|with_reducible rfl) ?_));simp only[Act.put,List.setIfInBounds_toArray,List.set_cons_zero,List.set_cons_succ]));exact zz.out):=h k
def aD(k:Q)(h:Hid Q->P:=by intro zz;(repeat((first|(refine tm rfl rfl rfl bo ?_)|(refine tB rfl rfl rfl ?_)|(refine tH rfl rfl rfl (w.heap.size+1) V _ nD ?_));simp only[Act.put,List.setIfInBounds_toArray,List.set_cons_zero,List.set_cons_succ]));exact zz.out):=h k
def aE(k:Q)(h:Hid Q->P:=by intro zz;(repeat((first|(refine tp rfl rfl rfl bo ?_)|(refine tF rfl rfl rfl ?_)|(refine tA rfl rfl rfl (w1.heap.size) V _ bJ ?_));simp only[Act.put,List.setIfInBounds_toArray,List.set_cons_zero,List.set_cons_succ]));exact zz.out):=h k
def aF(k:Q)(h:Hid Q->P:=by intro zz;(repeat((first|(refine wM rfl rfl rfl rfl bo ?_)|(refine wO rfl rfl rfl rfl ?_)|(refine wN rfl rfl rfl rfl (wo.heap.size) V _ bJ ?_));simp only[Act.put,List.setIfInBounds_toArray,List.set_cons_zero,List.set_cons_succ]));exact zz.out):=h k
def aG(k:Q)(h:Hid Q->P:=by intro zz;(repeat((first|(refine wM rfl rfl rfl rfl bo ?_)|(refine wO rfl rfl rfl rfl ?_)|(refine wN rfl rfl rfl rfl (wq.heap.size) V _ bJ ?_));simp only[Act.put,List.setIfInBounds_toArray,List.set_cons_zero,List.set_cons_succ]));exact zz.out):=h k
def aH(k:Q)(h:Hid Q->P:=by intro zz;(repeat((first|(refine tp rfl rfl rfl bo ?_)|(refine tF rfl rfl rfl ?_)|(refine tA rfl rfl rfl we.heap.size V _ (by intro w' hb;have y0:=(hBe.kfr hb hBe.lt V).c0;have y1:=(hJe.kfr hb hJe.lt V).at_.2.2.2.2;have y2:=(hb.off.cell (p:=rN g (q+j)) bl bl).trans hce;clear hb;go_simp;first|done|with_reducible rfl) ?_));simp only[Act.put,List.setIfInBounds_toArray,List.set_cons_zero,List.set_cons_succ]));exact zz.out):=h k
def aI(k:Q)(h:Hid Q->P:=by intro zz;(repeat((first|(refine tp rfl rfl rfl bo ?_)|(refine tF rfl rfl rfl ?_)|(refine tA rfl rfl rfl we.heap.size V _ (by intro w' hb;have y0:=(hBe.kfr hb hBe.lt V).c0;have y1:=(hJe.kfr hb hJe.lt V).at_;obtain⟨z0,z1,z2,z3,z4⟩:=y1;clear hb;go_simp;first|done|with_reducible rfl) ?_));simp only[Act.put,List.setIfInBounds_toArray,List.set_cons_zero,List.set_cons_succ]));exact zz.out):=h k
def aJ(k:Q)(h:Hid Q->P:=by intro zz;(repeat((first|(refine Gq rfl rfl rfl rfl rfl bo ?_)|(refine Gs rfl rfl rfl rfl rfl ?_)|(refine Gr rfl rfl rfl rfl 0 (Nat.le_refl _) _ bJ ?_)|(refine B9 rfl rfl rfl rfl rfl _ bJ ?_));simp only[Act.put,List.setIfInBounds_toArray,List.set_cons_zero,List.set_cons_succ]));exact zz.out):=h k
def aK(k:Q)(h:Hid Q->P:=by intro zz;(repeat((first|(refine wM rfl rfl rfl rfl bo ?_)|(refine wO rfl rfl rfl rfl ?_)|(refine wN rfl rfl rfl rfl 0 (Nat.le_refl _) _ bJ ?_));simp only[Act.put,List.setIfInBounds_toArray,List.set_cons_zero,List.set_cons_succ]));exact zz.out):=h k
def aL(k:Q)(h:Hid Q->P:=by intro zz;(repeat((first|(refine tm rfl rfl rfl bo ?_)|(refine tB rfl rfl rfl ?_)|(refine tH rfl rfl rfl (w1.heap.size) V _ bJ ?_));simp only[Act.put,List.setIfInBounds_toArray,List.set_cons_zero,List.set_cons_succ]));exact zz.out):=h k
def aM(k:Q)(h:Hid Q->P:=by intro zz;(repeat((first|(refine tm rfl rfl rfl bo ?_)|(refine tB rfl rfl rfl ?_)|(refine tH rfl rfl rfl (wb.heap.size) V _ bJ ?_));simp only[Act.put,List.setIfInBounds_toArray,List.set_cons_zero,List.set_cons_succ]));exact zz.out):=h k
def aN(k:Q)(h:Hid Q->P:=by intro zz;(repeat((first|(refine tp rfl rfl rfl bo ?_)|(refine tF rfl rfl rfl ?_)|(refine tA rfl rfl rfl 0 (Nat.le_refl _) _ (by intro w' hb;have y0:=(Kb.cell hb (q:=rN wo.heap.size 1) RC).trans a1;have y1:=(Kb.cell hb (q:=rN wo.heap.size 2) RC).trans a2;have y2:=(Kb.cell hb (q:=rN wo.heap.size 3) RC).trans a3;have y3:=(Kb.cell hb (q:=rN wo.heap.size 4) RC).trans a4;have y4:=(Kb.cell hb (q:=rN wo.heap.size 6) RC).trans a6;have y5:=(Kb.cell hb (q:=rN wo.heap.size 9) RC).trans a9;clear hb;go_simp;first|done|with_reducible rfl) ?_));simp only[Act.put,List.setIfInBounds_toArray,List.set_cons_zero,List.set_cons_succ]));exact zz.out):=h k
def aO(k:Q)(h:Hid Q->P:=by intro zz;(repeat((first|(refine tp rfl rfl rfl bo ?_)|(refine tF rfl rfl rfl ?_)|(refine tA rfl rfl rfl 0 (Nat.le_refl _) _ bJ ?_));simp only[Act.put,List.setIfInBounds_toArray,List.set_cons_zero,List.set_cons_succ]));exact zz.out):=h k
def aP(k:Q)(h:Hid Q->P:=by intro zz;(repeat((first|(refine tp rfl rfl rfl bo ?_)|(refine tF rfl rfl rfl ?_)|(refine tA rfl rfl rfl 0 (Nat.le_refl _) _ (by intro w' hb;have y0:=(Kb.cell hb (q:=rN w.heap.size 1) bl).trans a1;have y1:=(Kb.cell hb (q:=rN (w.heap.size+1) 2) bl).trans b2;clear hb;go_simp;first|done|with_reducible rfl) ?_));simp only[Act.put,List.setIfInBounds_toArray,List.set_cons_zero,List.set_cons_succ]));exact zz.out):=h k
def aQ(k:Q)(h:Hid Q->P:=by intro zz;(repeat((first|(refine tp rfl rfl rfl bo ?_)|(refine tF rfl rfl rfl ?_)|(refine tA rfl rfl rfl 0 (Nat.le_refl _) _ (by intro w' hb;have y0:=(Kb.cell hb (q:=rN wr.heap.size 3) bl).trans f3;clear hb;go_simp;first|done|with_reducible rfl) ?_));simp only[Act.put,List.setIfInBounds_toArray,List.set_cons_zero,List.set_cons_succ]));exact zz.out):=h k
def aR(k:Q)(h:Hid Q->P:=by intro zz;(repeat((first|(refine tm rfl rfl rfl bo ?_)|(refine tB rfl rfl rfl ?_)|(refine tH rfl rfl rfl (w.heap.size) V _ (by intro w' hb;have y0:=(hb.cell (p:=rN b1 0) bl).trans d1;have y1:=(hb.cell (p:=rN b2 0) bl).trans d2;have y2:=(hb.cell (p:=rN b3 0) bl).trans d3;have y3:=(hb.cell (p:=rN g 0) bl).trans d4;have y4:=(hb.cell (p:=rN q (p+j*10)) bl).trans e0;clear hb;go_simp;first|done|with_reducible rfl) ?_));simp only[Act.put,List.setIfInBounds_toArray,List.set_cons_zero,List.set_cons_succ]));exact zz.out):=h k
def aS(k:Q)(h:Hid Q->P:=by intro zz;(repeat((first|(refine tm rfl rfl rfl bo ?_)|(refine tB rfl rfl rfl ?_)|(refine tH rfl rfl rfl (0) V _ bJ ?_));simp only[Act.put,List.setIfInBounds_toArray,List.set_cons_zero,List.set_cons_succ]));exact zz.out):=h k
def aT(k:Q)(h:Hid Q->P:=by intro zz;(repeat((first|(refine wM rfl rfl rfl rfl bo ?_)|(refine wO rfl rfl rfl rfl ?_)|(refine wN rfl rfl rfl rfl 0 (Nat.le_refl _) _ (by intro w' hb;have y0:=(Kb.cell hb (q:=rN g 0) (by simp)).trans d0;have y1:=(Kb.cell hb (q:=rN g 1) (by simp)).trans d1;have y2:=(Kb.cell hb (q:=rN w5.heap.size 0) (by simp)).trans f0;clear hb;go_simp;first|done|with_reducible rfl) ?_));simp only[Act.put,List.setIfInBounds_toArray,List.set_cons_zero,List.set_cons_succ]));exact zz.out):=h k
def aV(k:Q)(h:Hid Q->P:=by intro zz;(repeat((first|(refine wM rfl rfl rfl rfl bo ?_)|(refine wO rfl rfl rfl rfl ?_)|(refine wN rfl rfl rfl rfl 0 (Nat.le_refl _) _ (by intro w' hb;have y0:=(Kb.cell hb (q:=rN w.heap.size 0) (by simp)).trans b0;have y1:=(Kb.cell hb (q:=rN w.heap.size 1) (by simp)).trans b1;have y2:=(Kb.cell hb (q:=rN w.heap.size 2) (by simp)).trans b2;have y3:=(Kb.cell hb (q:=rN w.heap.size 3) (by simp)).trans b3;have y4:=(Kb.cell hb (q:=rN w.heap.size 4) (by simp)).trans b4;have y5:=(Kb.cell hb (q:=rN w5.heap.size 0) (by simp)).trans f0;clear hb;go_simp;first|done|with_reducible rfl) ?_));simp only[Act.put,List.setIfInBounds_toArray,List.set_cons_zero,List.set_cons_succ]));exact zz.out):=h k
def aW(k:Q)(h:Hid Q->P:=by intro zz;(repeat((first|(refine tp rfl rfl rfl bo ?_)|(refine tF rfl rfl rfl ?_)|(refine tA rfl rfl rfl 0 (Nat.le_refl _) _ (by intro w' hb;have y0:=(Kb.cell hb (q:=rN w.heap.size 0) (by simp)).trans b0;have y1:=(Kb.cell hb (q:=rN w.heap.size 1) (by simp)).trans b1;have y2:=(Kb.cell hb (q:=rN w.heap.size 2) (by simp)).trans b2;have y3:=(Kb.cell hb (q:=rN w.heap.size 3) (by simp)).trans b3;have y4:=(Kb.cell hb (q:=rN w.heap.size 4) (by simp)).trans b4;clear hb;go_simp;first|done|with_reducible rfl) ?_));simp only[Act.put,List.setIfInBounds_toArray,List.set_cons_zero,List.set_cons_succ]));exact zz.out):=h k
def aX(k:Q)(h:Hid Q->P:=by intro zz;(repeat((first|(refine tp rfl rfl rfl bo ?_)|(refine tF rfl rfl rfl ?_)|(refine tA rfl rfl rfl 0 (Nat.le_refl _) _ (by intro w' hb;have y0:=(Kb.cell hb (q:=rN w.heap.size 0) (by simp)).trans b0;have y1:=(Kb.cell hb (q:=rN w.heap.size 1) (by simp)).trans b1;have y2:=(Kb.cell hb (q:=rN (w.heap.size+2) 0) (by simp)).trans v0;have y3:=(Kb.cell hb (q:=rN (w.heap.size+2) 1) (by simp)).trans v1;have y4:=(Kb.cell hb (q:=rN (w.heap.size+2) 2) (by simp)).trans v2;have y5:=(Kb.cell hb (q:=rN (w.heap.size+2) 3) (by simp)).trans v3;have y6:=(Kb.cell hb (q:=rN (w.heap.size+2) 4) (by simp)).trans v4;have y7:=(Kb.cell hb (q:=rN (w.heap.size+2) 5) (by simp)).trans v5;clear hb;go_simp;first|done|with_reducible rfl) ?_));simp only[Act.put,List.setIfInBounds_toArray,List.set_cons_zero,List.set_cons_succ]));exact zz.out):=h k
def aY(k:Q)(h:Hid Q->P:=by intro zz;(repeat((first|(refine tp rfl rfl rfl bo ?_)|(refine tF rfl rfl rfl ?_)|(refine tA rfl rfl rfl 0 (Nat.le_refl _) _ (by intro w' hb;have y0:=(Kb.cell hb (q:=rN w.heap.size 0) (by simp)).trans m0;have y1:=(Kb.cell hb (q:=rN w.heap.size 7) (by simp)).trans m7;have y2:=(Kb.cell hb (q:=rN (w.heap.size+3) 0) (by simp)).trans v0;have y3:=(Kb.cell hb (q:=rN (w.heap.size+3) 1) (by simp)).trans v1;have y4:=(Kb.cell hb (q:=rN (w.heap.size+3) 2) (by simp)).trans v2;have y5:=(Kb.cell hb (q:=rN (w.heap.size+3) 3) (by simp)).trans v3;have y6:=(Kb.cell hb (q:=rN (w.heap.size+3) 4) (by simp)).trans v4;have y7:=(Kb.cell hb (q:=rN (w.heap.size+3) 5) (by simp)).trans v5;clear hb;go_simp;first|done|with_reducible rfl) ?_));simp only[Act.put,List.setIfInBounds_toArray,List.set_cons_zero,List.set_cons_succ]));exact zz.out):=h k
def aZ(k:Q)(h:Hid Q->P:=by intro zz;(repeat((first|(refine Gq rfl rfl rfl rfl rfl bo ?_)|(refine Gs rfl rfl rfl rfl rfl ?_)|(refine Gr rfl rfl rfl rfl 0 (Nat.le_refl _) _ (by intro w' hb;have y0:=(Kb.cell hb (q:=rN (w.heap.size+1) 0) (by simp)).trans v0;have y1:=(Kb.cell hb (q:=rN (w.heap.size+1) 1) (by simp)).trans v1;have y2:=(Kb.cell hb (q:=rN (w.heap.size+1) 2) (by simp)).trans v2;have y3:=(Kb.cell hb (q:=rN (w.heap.size+1) 3) (by simp)).trans v3;have y4:=(Kb.cell hb (q:=rN (w.heap.size+1) 4) (by simp)).trans v4;have y5:=(Kb.cell hb (q:=rN (w.heap.size+1) 5) (by simp)).trans v5;clear hb;go_simp;first|done|with_reducible rfl) ?_)|(refine B9 rfl rfl rfl rfl rfl _ (by intro w' hb;have y0:=(Kb.cell hb (q:=rN w.heap.size 0) (by simp)).trans b0;clear hb;go_simp;first|done|with_reducible rfl) ?_));simp only[Act.put,List.setIfInBounds_toArray,List.set_cons_zero,List.set_cons_succ]));exact zz.out):=h k
def ba(k:Q)(h:Hid Q->P:=by intro zz;(repeat((first|(refine tp rfl rfl rfl bo ?_)|(refine tF rfl rfl rfl ?_)|(refine tA rfl rfl rfl 0 (Nat.le_refl _) _ (by intro w' hb;have y0:=(Kb.cell hb (q:=rN tb 4) bl).trans t4;have y1:=(Kb.cell hb (q:=rN w7.heap.size 0) bl).trans p0;have y2:=(Kb.cell hb (q:=rN w7.heap.size 1) bl).trans p1;clear hb;go_simp;first|done|with_reducible rfl) ?_));simp only[Act.put,List.setIfInBounds_toArray,List.set_cons_zero,List.set_cons_succ]));exact zz.out):=h k
def bb(k:Q)(h:Hid Q->P:=by intro zz;(repeat((first|(refine tp rfl rfl rfl bo ?_)|(refine tF rfl rfl rfl ?_)|(refine tA rfl rfl rfl 0 (Nat.le_refl _) _ (by intro w' hb;have y0:=(hb ⟨w.heap.size,0,none⟩ (by simp)).trans y0;have y1:=(hb ⟨w.heap.size,1,none⟩ (by simp)).trans y1;have y2:=(hb ⟨w.heap.size+1,0,none⟩ (by simp)).trans y3;clear hb;go_simp;first|done|with_reducible rfl) ?_));simp only[Act.put,List.setIfInBounds_toArray,List.set_cons_zero,List.set_cons_succ]));exact zz.out):=h k
def bf(k:Q)(h:Hid Q->P:=by intro zz;(repeat((first|(refine wM rfl rfl rfl rfl bo ?_)|(refine wO rfl rfl rfl rfl ?_)|(refine wN rfl rfl rfl rfl 0 (Nat.le_refl _) _ (by intro w' hb;have y0:=(Kb.cell hb (q:=rN rb 0) (by simp)).trans d0;have y1:=(Kb.cell hb (q:=rN w2.heap.size 0) (by simp)).trans x0;have y2:=(Kb.cell hb (q:=rN w2.heap.size 1) (by simp)).trans x1;have y3:=(Kb.cell hb (q:=rN w2.heap.size 2) (by simp)).trans x2;have y4:=(Kb.cell hb (q:=rN w2.heap.size 3) (by simp)).trans x3;clear hb;go_simp;first|done|with_reducible rfl) ?_));simp only[Act.put,List.setIfInBounds_toArray,List.set_cons_zero,List.set_cons_succ]));exact zz.out):=h k
def bg(k:Q)(h:Hid Q->P:=by intro zz;(repeat((first|(refine tp rfl rfl rfl bo ?_)|(refine tF rfl rfl rfl ?_)|(refine tA rfl rfl rfl 0 (Nat.le_refl _) _ (by intro w' hb;have y0:=(Kb.cell hb (q:=rN g 2) rfl).trans vd;clear hb;go_simp;first|done|with_reducible rfl) ?_));simp only[Act.put,List.setIfInBounds_toArray,List.set_cons_zero,List.set_cons_succ]));exact zz.out):=h k
def V(h:P:=by omega):=h
def bi(h:P:=by exact oS):=h
def bl(h:P:=by simp only;omega):=h
def bm(h:P:=by kernel_rfl):=h
def bo(h:P:=by intro w';exact pL):=h
def bq(h:P:=by intro b hb;have:=hX b hb;omega):=h
def bt(h:P:=by intro _ _ d _ _ h;cases d<;>exact h):=h
def bu(h:P:=by repeat' (first|with_reducible exact sa.refl _ _ _|with_reducible refine sa.setAt ?_ _ _)):=h
def bA(h:P:=by simp):=h
def bB(h:P:=by
 obtain rfl:R=false:=by rw[HR.out];simp
 go_wp2_with fail;go_ret;exact⟨rfl,Bv⟩):=h
def bC(h:P:=by have:=hX b hb;omega):=h
def bD(h:P:=by go_wp2_with fail;go_ret;exact⟨rfl,Bv⟩):=h
def bE(h:P:=by go_enter Tryz.func221,Tryz.ntmps221;go_wp2;go_ret;exact⟨by first|rfl|(simp[Ending.returned.injEq];omega),rfl⟩):=h
def bF(h:P:=by decide+kernel):=h
def bG(h:P:=by simp only[List.length_append,List.length_cons,List.length_nil,l1,l2,l3,l4,l5]at*;omega):=h
def bH(h:P:=by decide):=h
def bI(h:P:=by go_wp2_with fail;go_ret;exact⟨rfl,rfl⟩):=h
def bJ(h:P:=by intro w' hb;clear hb;exact pL):=h
def bK(h:P:=by exact⟨rfl,rfl⟩):=h
def bL(h:P:=by go_wp2_with fail;go_ret;exact⟨rfl,sK⟩):=h
def bM(h:P:=by have:=hX _ hq;omega):=h
def bN(h:P:=by simp[intOf];omega):=h
def bP(h:P:=by intro b hb;omega):=h
def bQ(h:P:=by unfold vM at h;simp only[Bool.and_eq_true,decide_eq_true_eq]at h;obtain⟨_,hb,_,hko⟩:=h;obtain⟨k,n,al,fs,sy,hs,df,sz,it,br⟩:=x;simp only at hk;subst hk;refine⟨by simpa[kindOk]using hko,?_⟩;unfold CR yL sr at hb;simp at hb;simp_all [CH]):=h
def bR(h:P:=by
 go_wp2_with fail;first|refine bodyPost_end (results_none rfl _ _ _) rfl ?_|refine bodyPost_ret (results_none rfl _ _ _) rfl ?_
 exact⟨rfl,by rw[HH.out];exact SZ,SY.trans Dy,hf1.trans YS⟩):=h
def bS(h:P:=by simp[IntKind.wrap,IntKind.bits,IntKind.signed];omega):=h
def bT(h:P:=by rw[e5];exact⟨⟨oS,oS,oS,oS⟩,oS,oS,oS⟩):=h
def bU(h:P:=by rw[HR.out];simp):=h
def bV(h:P:=by
 refine(Below.refl _ _).grown h3 FN fun k hk=> ?_
 cases A with
 |none=>simp[Value.ownBlock]at hk
 |some ad=>simp only[Value.ownBlock,Option.some.injEq]at hk;have:=(Er.block ad rfl).1;omega):=h
def bW(h:P:=by intro b hb;cases hb):=h
def bX(h:P:=by
 have hc:=uD g h base _ n c root s7.2 s7.1 [125] w3 F3 oq;go_wp2_with fail;refine sG hc fun w4 ⟨F4,hT,hO⟩=> ?_
 clear hc b0 b1 b2 b3 b4 b5 b6 b7 b8 b9 bz;have T4:=T3.trans hT;have O4:=O3.trans hO;have N4:=N3.tf hT Dk Dl;obtain⟨⟨b0,b1,b2,b3,b4,b5,b6,b7,b8,b9⟩,bz⟩:=N4.1;clear hT hO F3 T3 O3 N3;go_wp2_with fail;refine bodyPost_end (results_none rfl _ _ _) rfl ?_;rw[HR3.out];exact⟨rfl,F4,T4,O4⟩):=h
def bY(h:P:=by intro he;have:=Xk _ he;simp only at this;omega):=h
def bZ(h:P:=by repeat' (first|with_reducible exact vp.refl _ _ _|with_reducible refine vp.set ?_ rfl)):=h
def ca(h:P:=by
 rw[c4]at Ep;have Zf:=Lib.hid c4;clear c4;go_wp2_with fail;refine tZ Ep ?_;go_wp2_with fail;refine sG (uO g _ A' n c m d (zz:Int) 0 20 w7 KJ Uw) fun w8 ⟨HA,Ou⟩=> ?_
 have Kw:=Ou.mono zM.size;rw[if_pos rfl]at HA;clear r0 r1 r2 r3 k1 k2 k3;go_wp2_with fail;go_ret;exact⟨od,by rw[Th.out,HE.out];rw[if_neg Tg.out,if_neg HN3.out,if_pos Zf.out];exact HA,zM.trans Kw⟩):=h
def cd(h:P:=by
 go_wp2_with fail;have sK:=HAL.out;simp[alQ]at sK;subst sK;refine(HCK.out _ (sZ.refl _)).mono ?_;rintro e' w13 ⟨he,Vy⟩;first|rw[show IL true=0 from rfl]at he|rw[show IL false=61 from rfl]at he
 subst he;go_wp2_with fail;refine(HRG.out w13 Vy).mono ?_;rintro e' w14 ⟨he,x14⟩;simp only[Bool.false_eq_true,if_true,if_false]at he;subst he;go_wp2_with fail;go_ret;exact⟨rfl,Ze.out _ _ Vy x14⟩):=h
def ce(h:P:=by
 go_wp2_with fail;refine tZ Ep ?_;go_wp2_with fail;refine sG (uO g _ A' n c m d (zz:Int) 0 22 w7 KJ Uw) fun w8 ⟨HA,Ou⟩=> ?_
 have Kw:=Ou.mono zM.size;rw[if_pos rfl]at HA;clear r0 r1 r2 r3 k1 k2 k3;go_wp2_with fail;go_ret;exact⟨od,by rw[Th.out,HE.out];rw[if_neg Tg.out,if_neg HN3.out,if_neg Zf.out,if_pos (.inl ou)];exact HA,zM.trans Kw⟩):=h
def cg(h:P:=by simp only[List.length_append,List.length_cons,List.length_nil,l1,l2]at*;omega):=h
def cn(h:P:=by have:=hr.len;omega):=h
def co(h:P:=by
 obtain rfl:R=(j:Int):=by rw[HD.out,Mr hpx]
 clear HD hpx;go_wp2_with fail;go_ret;exact⟨rfl,Ac⟩):=h
def cq(h:P:=by
 have e3:(y.toNat:Int)=48:=by rw[q2.2];rfl
 have Tg:=Lib.hid q2;clear q2 q1 Y7;go_wp2_with fail;refine sG (uO g _ A' n c m d (zz:Int) 0 20 w7 KJ Uw) fun w8 ⟨HA,Ou⟩=> ?_
 have Kw:=Ou.mono zM.size;rw[if_pos rfl]at HA;clear r0 r1 r2 r3 k1 k2 k3;go_wp2_with fail;go_ret;exact⟨od,by rw[Th.out,HE.out];rw[if_pos (.inr Tg.out)];exact HA,zM.trans Kw⟩):=h
def cu(h:P:=by
 clear q1;have HQ:=Lib.hid hq;have HQ1:=Lib.hid Y7;clear hq Y7 Jo YY WI;go_wp2_with fail;refine sG (uO g _ A' n c m d (zz:Int) 0 20 w7 KJ Uw) fun w8 ⟨HA,Ou⟩=> ?_
 have Kw:=Ou.mono zM.size;rw[if_pos rfl]at HA;clear r0 r1 r2 r3 k1 k2 k3;go_wp2_with fail;go_ret;exact⟨od,by rw[Th.out,HE.out];rw[if_pos (.inl HQ1.out)];exact HA,zM.trans Kw⟩):=h
def cw(h:P:=by rw[UInt8.toNat_ofNat'];omega):=h
def cB(h:P:=by unfold Oper.wp execOp;simp only[resolve,invoke,builtin,Sem.run_bind,Sem.run_pure,Result.andThen_ok,List.map_toArray,List.map_cons,List.map_nil,hs,hx,IS];exact hK _ _ (hh A2 c2 w' h2 h3 h4 h5)):=h
def cC(h:P:=by
 intro lst j hv hj EK q hq;by_cases hjq:j=q
 ·subst hjq;exfalso;have Mn:j∈l:=by rcases List.mem_cons.1 hq with h|h;exact absurd h EK;exact h
  obtain⟨p,hp,o,ho,e,he,hb,rfl⟩:=Hi l i PZ j Mn;obtain⟨_,o',ho',Xi⟩:=mem_ready.1 hj;rw[ho]at ho';injection ho' with ho';subst ho';exact On (Xi e he hb) (hv _ hp)
 ·rw[getD_set_ne true hjq];exact hv q hq):=h
def cD(h:P:=by first|assumption|decide):=h
def cF(h:P:=by unfold Oper.wp execOp;simp only[resolve,invoke,builtin,Sem.run_bind,Sem.run_pure,Result.andThen_ok,List.map_toArray,List.map_cons,List.map_nil,hs,hx,IS];exact hK _ _ (h A2 c2 w' h2 h3 h4)):=h
def cG(h:P:=by
 go_wp2_with fail;refine sG hc fun w3 ⟨F3,hT,hO⟩=> ?_
 clear hc b0 b1 b2 b3 b4 b5 b6 b7 b8 b9 bz;have T3:=T2.trans hT;have O3:=O2.trans hO;have N3:=N2.tf hT Dk Dl;obtain⟨⟨b0,b1,b2,b3,b4,b5,b6,b7,b8,b9⟩,bz⟩:=N3.1;clear hT hO F2 T2 O2 N2;go_wp2_with fail;refine bodyPost_end (results_none rfl _ _ _) rfl ?_;rw[De.out,<-HQ.out];exact⟨rfl,F3,T3,O3⟩):=h
def cH(h:P:=by
 rcases Nat.eq_zero_or_pos n with h|h;·exact h
 ·obtain⟨g,p,h,_⟩:=hr.pos h;cases h):=h
def cI(h:P:=by go_upto_region 1 with fail;generalize w.alloc _=w1 at*;have s0:=B1.c 0 _ rfl;have s1:=B1.c 1 _ rfl;have sf:=B1.f;have p0:=P1.c 0 _ rfl;have p1:=P1.c 1 _ rfl;go_wp2_with fail;refine bodyPost_ret (aat rfl rfl (((B1.set 0 _).set 1 _).c 0 _ rfl) (((B1.set 0 _).set 1 _).c 1 _ rfl)) rfl ⟨rfl,?_⟩;exact(sK.setCell (Nat.le_refl _) _).setCell (Nat.le_refl _) _):=h
def cJ(h:P:=by go_wp2_with fail;go_ret;exact⟨rfl,wI⟩):=h
def cK(h:P:=by go_wp2_with fail;go_ret;exact⟨rfl,Ac⟩):=h
def cL(h:P:=by
 have h:=CO.out;have h2:decide (1000<xQ+1)=false:=by cases hh:decide (1000<xQ+1)with|false=>rfl|true=>rw[hh,Bool.or_true]at h;cases h
 have:=of_decide_eq_false h2;omega):=h
def cM(h:P:=by first|(simp;done)|(simp;omega)):=h
def cN(h:P:=by
 subst c2;go_wp2_with fail;refine sG (uO g _ A' n c m d (zz:Int) 0 22 w7 KJ Uw) fun w8 ⟨HA,Ou⟩=> ?_
 have Kw:=Ou.mono zM.size;rw[if_pos rfl]at HA;clear r0 r1 r2 r3 k1 k2 k3;go_wp2_with fail;go_ret;exact⟨od,by rw[Th.out,HE.out];rw[if_neg Tg.out,if_pos (.inr (.inl ou))];exact HA,zM.trans Kw⟩):=h
def cO(h:P:=by
 subst c3;go_wp2_with fail;refine sG (uO g _ A' n c m d (zz:Int) 0 22 w7 KJ Uw) fun w8 ⟨HA,Ou⟩=> ?_
 have Kw:=Ou.mono zM.size;rw[if_pos rfl]at HA;clear r0 r1 r2 r3 k1 k2 k3;go_wp2_with fail;go_ret;exact⟨od,by rw[Th.out,HE.out];rw[if_neg Tg.out,if_pos (.inr (.inr ou))];exact HA,zM.trans Kw⟩):=h
def cP(h:P:=by unfold vM at BI;simp only[Bool.and_eq_true,decide_eq_true_eq]at BI;unfold sr at hN;simp at hN;omega):=h
def cQ(h:P:=by
 subst c1;go_wp2_with fail;refine sG (uO g _ A' n c m d (zz:Int) 0 22 w7 KJ Uw) fun w8 ⟨HA,Ou⟩=> ?_
 have Kw:=Ou.mono zM.size;rw[if_pos rfl]at HA;clear r0 r1 r2 r3 k1 k2 k3;go_wp2_with fail;go_ret;exact⟨od,by rw[Th.out,HE.out];rw[if_neg Tg.out,if_pos (.inl ou)];exact HA,zM.trans Kw⟩):=h
def cT(h:P:=by exact od):=h
def cU(h:P:=by
 rcases g2.2 with⟨_,hn0⟩|⟨g',cap',cur,rfl,_⟩;·omega
 ·exact⟨_,_,rfl⟩):=h
def cV(h:P:=by
 rcases h2.2 with⟨rfl,hn0⟩|⟨g',cap,cur,rfl,_⟩;·exact⟨none,0,by rw[hn0]⟩
 ·exact⟨_,_,rfl⟩):=h
def cX(h:P:=by go_wp2_with fail;go_ret;exact⟨none,0,rfl,World.ownsRow_nil _ _ _ _,Below.refl _ _⟩):=h
def cY(h:P:=by obtain⟨f,rfl⟩:∃f',f=f'+1:=⟨f-1,by simp only[Qz]at hf;omega⟩;rw[wU];simp):=h
def da(h:P:=by rw[HL.out];omega):=h
def db(h:P:=by simpa[uL]using this):=h
def dc(h:P:=by rcases hq.1 with h|h;(have:=hX _ h;omega);omega):=h
def de(h:P:=by have:=vb.size;omega):=h
def dg(h:P:=by have Gf:=abK.trans ((sa.of hd (g:=g)).mono WJ);refine ac ?_;refine sQ ?_;go_wp2;have h:=HQ.out;subst h;go_ret;exact⟨rfl,GM.out,Gf⟩):=h
def dh(h:P:=by rw[BG _ _ _ hlen];rfl):=h
def dk(h:P:=by rintro e w1 ⟨rfl,rfl⟩;go_wp2_with fail;refine hf.mono ?_;rintro e w1 ⟨rfl,hb⟩;cases F;all_goals go_wp2_with fail;go_ret2;exact⟨rfl,hb⟩):=h
def dl(h:P:=by have hx:=hi j h1 h2;obtain⟨k,i,t,A1,n1,c1,A2,n2,c2,he⟩:=hx.form;have hcc:=(hc j uQ[j] (List.getElem?_eq_getElem h1)).2;rw[he]at hx hcc;exact⟨g,p,items[j],k,i,t,A1,n1,c1,A2,n2,c2,hA,hg,List.getElem?_eq_getElem h2,hx,hcc 0 _ rfl,hcc 1 _ rfl,hcc 2 _ rfl,hcc 3 _ rfl,hcc 4 _ rfl⟩):=h
def dm(h:P:=by subst hr;intro i v hv;obtain⟨h1,h2⟩:=List.getElem?_eq_some_iff.1 hv;rw[List.getElem_replicate]at h2;rw[List.length_replicate]at h1;subst h2;refine⟨?_,by rw[World.frozen?_alloc_at _ _ _ _ rfl]⟩;rw[World.cell?_alloc_at _ _ _ _ rfl];simp[madeCells,h1,Nat.mod_one]):=h
def dn(h:P:=by intro j u hu;simp only[cells,List.getElem?_map,Option.map_eq_some_iff]at hu;obtain⟨x,hx,rfl⟩:=hu;rw[Addr.add_lit];exact hc j x hx):=h
def dq(h:P:=by simp[Value.oneCell']):=h
def dt(h:P:=by have:=Iw.size;omega):=h
def du(h:P:=by rw[List.getElem?_eq_getElem Fg]at hx;injection hx):=h
def dv(h:P:=by rw[HL.out];exact Dx):=h
def dw(h:P:=by
 go_wp2;all_goals go_ret
 all_goals refine⟨?_,rfl⟩;generalize c.toNat=n at*;simp;first|done|omega|(rw[Bool.eq_iff_iff];simp;omega)):=h
def dy(h:P:=by obtain⟨r0,r1,r2,r3,r4,r5,r6,r7,r8,r9, -⟩:=R6.xX;clear z1 rf;go_wp2_with fail;refine Calls.mono (show Calls _ _ _ _ _ from hff) ?_;rintro e' w7 ⟨tT,A',n',c',rfl,S7,K7⟩;clear hff;go_wp2_with fail;go_ret;exact⟨tT,A',n',c',rfl,S7,K6.trans K7⟩):=h
def dA(h:P:=by rw[HR.out];rfl):=h
def dB(h:P:=by intro b hb;have:=(abQ b hb).2.1;omega):=h
def dC(h:P:=by rcases j with _|_|_|_|_|j<;>simp[jv]at hu<;>subst hu<;>first|exact Zw|exact Zx|exact Zy|exact Zz|exact ZA):=h
def dD(h:P:=by simp only[maxLen];omega):=h
def dE(h:P:=by have:=ze.size;omega):=h
def dF(h:P:=by
 go_wp2_with fail;refine sG h fun w2 hb=> ?_
 go_wp2_with fail;go_ret;exact⟨rfl,hb⟩):=h
def dG(h:P:=by go_wp2_with fail;go_ret;exact⟨rfl,sK.sY (Nat.le_refl _) Gu⟩):=h
def dH(h:P:=by go_wp2_with fail;refine bodyPost_end (results_none rfl _ _ _) rfl ?_;exact⟨rfl,⟨p,A,n,c,h1.s2 _,h2,h3.off ((sa.refl b _ _).setAt 2 _) h4,h4,by simpa using h5,h6⟩,(sa.refl b _ _).setAt 2 _,z8.off ((sa.refl b _ _).setAt 2 _)⟩):=h
def dI(h:P:=by rw[BG _ _ _ hlen];unfold BH AF opt;cases tK x.aliases<;>rfl):=h
def dJ(h:P:=by simp only at this;omega):=h
def dK(h:P:=by have:=yG.size;omega):=h
def dL(h:P:=by intro b hb;have:=(hX b hb).1;omega):=h
def dM(h:P:=by cases h):=h
def dN(h:P:=by simp only[Qz]at hf;omega):=h
def dO(h:P:=by generalize decide (i=0)=NB at*;generalize decide (text=[])=TB at*;generalize decide (n=0)=IB at*;cases NB<;>cases TB<;>cases IB;all_goals have h:=HH.out;simp at h;subst h;clear HH;go_wp2_with fail;go_ret;exact⟨rfl,Bv⟩):=h
def dP(h:P:=by repeat' (first|with_reducible exact Below.refl _ _|with_reducible assumption|with_reducible refine Below.drew ?_|with_reducible refine Below.setAt ?_ _ _|with_reducible refine Below.alloc ?_ (by simp<;>omega) _)):=h
def dQ(h:P:=by unfold BH AF opt;cases tK x.aliases<;>rfl):=h
def dR(h:P:=by injection hu with hu;subst hu;rcases hk with⟨s,hk⟩|⟨v,hk⟩<;>cases hk):=h
def dS(h:P:=by go_wp2_with fail;go_ret;exact⟨rfl,hb⟩):=h
def dU(h:P:=by have:=(adv b hb).2.1;omega):=h
def dV(h:P:=by
 rcases h.2 with⟨hv,h0⟩|⟨g,cap,cur,hv,hb,hg,h1,_⟩;·omega
 ·injection hv with _ _ hc;omega):=h
def dW(h:P:=by clear tv;refine aO ?_;refine sF ?_;go_wp2_with fail;go_ret;exact⟨tT,A',n',c',rfl,S5,K4.trans K5⟩):=h
def dX(h:P:=by obtain⟨h1,h2⟩:=List.getElem?_eq_some_iff.1 Rt;rw[<-h2];exact List.drop_eq_getElem_cons h1):=h
def dY(h:P:=by simp only[List.length_append];omega):=h
def dZ(h:P:=by simp[intOf]):=h
def ee(h:P:=by simp[CH]):=h
def ej(h:P:=by have:=x8.size;omega):=h
def eo(h:P:=by rw[HYY.out,HCH.out,if_pos rfl];exact Jq.setAt (Ov) _ _):=h
def ep(h:P:=by
 have h1:=Xi e he hb;have h0:=(mem_ready.1 hr).1;rw[heq]at h1;rcases Nat.lt_or_ge i listed.size with h'|h';·simp[h']at h0 h1;rw[h0]at h1;cases h1
 ·simp[Array.getElem?_eq_none h']at h1):=h
def eq(h:P:=by have:(n+1)*bytes<=(n+1)*1000:=Nat.mul_le_mul_left _ hb;omega):=h
def eu(h:P:=by rw[List.getElem?_set,if_pos rfl,if_pos abT]):=h
def ev(h:P:=by
 go_wp2_with fail;go_loopw [8] (fun s8 wr=>s8=.int .i64 0/\w=wr) (fun _ _=>0);case atStart=>exact⟨rfl,rfl⟩
 case round=>obtain⟨rfl,rfl⟩:=hrel;go_wp2_with fail;go_ret;exact⟨rfl,rfl⟩):=h
def ew(h:P:=by rcases j with _|j<;>simp at hu;subst hu;unfold sv;go_simp):=h
def ex(h:P:=by clear hG;go_enter Tryz.func209,Tryz.ntmps209;go_wp2_with fail;refine hj.mono ?_;rintro e w1 ⟨rfl,hb⟩;clear hj;cases J;all_goals unfold Qc;go_wp2_with fail;go_ret2;exact⟨rfl,hb⟩):=h
def ey(h:P:=by rw[BG _ _ _ hlen];exact oW):=h
def ez(h:P:=by unfold Oper.wp execOp;simp only[resolve,invoke,builtin,Sem.run_bind,Sem.run_pure,Result.andThen_ok,List.map_toArray,List.map_cons,List.map_nil,hs,hx,IS];exact hK _ _ (hh A2 c2 w' h2 h3)):=h
def eA(h:P:=by have:=hX0 _ hq;omega):=h
def eB(h:P:=by clear HR hR key Iz;go_wp2_with fail;refine Xx.mono ?_;rintro e' w4 ⟨tT,A',n',c',rfl,S4,K4⟩;clear Xx;exact oY):=h
def eC(h:P:=by intro he;injection he with _ he _;omega):=h
def eD(h:P:=by rcases hb with h|h|h;exact Mq b (.inl h);exact Mq b (.inr h);exact KI b h):=h
def eE(h:P:=by rcases hb with h|h|h;exact Ox b (.inl h);exact Ox b (.inr h);exact Oz b h):=h
def eF(h:P:=by rcases hb with h|h|h;exact XA b (.inl h);exact XA b (.inr h);exact ZT b h):=h
def eG(h:P:=by rcases hb.1 with h|h;exact h.elim;omega):=h
def eH(h:P:=by have:=HS2.out;omega):=h
def eI(h:P:=by cases B<;>simp[Value.ownBlock]):=h
def eJ(h:P:=by
 have:=HT2.out;by_cases h:y=48
 ·have h1:¬1<k:=fun h1=>q2 ⟨h1,h⟩
  left;omega
 ·have:¬y.toNat=48:=fun e=>h (UInt8.toNat_inj.1 (by rw[e];rfl))
  omega):=h
def eK(h:P:=by simpa using h):=h
def eL(h:P:=by refine sQ ?_;go_wp2_with fail;go_ret;exact⟨rfl,hd⟩):=h
def eM(h:P:=by repeat' (first|with_reducible exact sa.refl _ _ _|with_reducible assumption|with_reducible refine sa.drew ?_|with_reducible refine sa.setAt ?_ _ _)):=h
def eN(h:P:=by go_ret;exact⟨A2,c2,rfl,Nt,sK.trans Gu⟩):=h
def eO(h:P:=by intro b hb;have:=hX b hb;simp;omega):=h
def eP(h:P:=by rcases j with _|j<;>simp at hu;subst hu;go_simp):=h
def eQ(h:P:=by simp[nS]):=h
def eR(h:P:=by
 by_cases hq:q=a;·subst hq;rw[World.cell?_setCell_same _ _ _ h];exact h.symm
 ·exact World.cell?_setCell_other _ _ _ _ (fun e=>hq e.symm)):=h
def eS(h:P:=by rw[Addr.add_lit,Nat.zero_add];exact hq j u hu):=h
def eT(h:P:=by have:=hb.size;omega):=h
def eU(h:P:=by simp[sA.deep]at hf;omega):=h
def eV(h:P:=by simpa using this):=h
def eW(h:P:=by obtain⟨_,_,_,_,_,_,_,_,h1,h2,h3,h4⟩:=hF;exact⟨h1,h2,h3,h4⟩):=h
def eX(h:P:=by
 go_wp2_with fail;refine sG P3 fun w4 hB4=> ?_
 obtain⟨v2,hE⟩:=Ze.out w4 hB4;clear Ze P3 u0 u2 u5;go_wp2_with fail;go_ret;exact⟨rfl,hE⟩):=h
def eY(h:P:=by clear Zh;go_wp2_with fail;go_ret;exact⟨rfl,adr⟩):=h
def eZ(h:P:=by generalize decide (n=0)=IB at*;cases TB<;>cases IB;all_goals have h:=HH.out;simp at h;subst h;clear HH;go_wp2_with fail;go_ret;exact⟨rfl,Bv⟩):=h
def fa(h:P:=by go_wp2_with fail;go_ret;exact oP):=h
def fd(h:P:=by simp only[LB]at hf;omega):=h
def fe(h:P:=by simp[opt]):=h
def fg(h:P:=by simp[World.cell?,h]):=h
def fh(h:P:=by obtain⟨_,_,_,_,_,_,_,h,_⟩:=hp;exact h):=h
def fk(h:P:=by rw[hx];simp;omega):=h
def fo(h:P:=by simp only[List.length_append,l1,l2];omega):=h
def fp(h:P:=by
 have:a<(S.take R).length:=by simp;omega
 rw[List.drop_eq_getElem_cons this];congr 1;have:=List.getElem?_eq_some_iff.1 hx;simp[this.2]):=h
def fq(h:P:=by intro j hj;cases j;simp at hj):=h
def fu(h:P:=by rw[List.getElem?_replicate];split<;>simp):=h
def fv(h:P:=by rcases hb with h|h;(have:=hX _ h;omega);omega):=h
def fw(h:P:=by simp only[List.length_append,List.length_cons,List.length_nil];omega):=h
def fy(h:P:=by go_ret;rw[HF.out]at Jq;exact⟨A6,_,c6,rfl,by rw[HNP.out];exact Jq,(ZK.trans (hb5'.mono hs1)).trans x8,(abO.sY hb5').trans hg6⟩):=h
def fA(h:P:=by first|omega|(simp only;omega)):=h
def fB(h:P:=by have:=hE.Dj _ hq;omega):=h
def fD(h:P:=by rcases j with _|_|_|_|_|_|j<;>simp at hu<;>subst hu<;>first|exact t0|exact t1|exact t2|exact t3|exact t4'|exact t5'):=h
def fF(h:P:=by rw[List.drop_zero];exact rfl):=h
def fG(h:P:=by
 refine P4 k ok hk hki ?_ hno;by_cases Fg:j=k;·subst Fg;exact Xs
 ·rw[getD_set_ne true Fg]at hun;exact hun):=h
def fH(h:P:=by
 unfold sH at h;split at h;·cases h
 ·split at h;·cases h
  ·rename_i h2;injection h with h;rw[<-h];exact h2):=h
def fI(h:P:=by go_wp2_with fail;go_ret;exact⟨tT,A',n',c',rfl,S4,K1.trans K4⟩):=h
def fJ(h:P:=by rename_i h1;intro h;exact absurd h h1):=h
def fK(h:P:=by simpa using hj):=h
def fM(h:P:=by have:=List.sizeOf_lt_of_mem hx;omega):=h
def fN(h:P:=by
 rename_i hk;subst hk;cases hw:wk nx with
 |none=>rw[hw]at h;cases h
 |some Ta=>rw[hw]at h;exact .cons (hwk _ _ hw) (ih _ _ h)):=h
def fO(h:P:=by unfold sr at hn;simp at hn;omega):=h
def fP(h:P:=by simp only[List.length_cons,List.length_nil]at hf;omega):=h
def fQ(h:P:=by simpa[xZ]using this):=h
def fR(h:P:=by intro e h;cases h):=h
def fT(h:P:=by rcases hk3 with h|h;exact hXK b hb (h.symm.trans he);(rw[h]at he;injection he with he;have:=hX0 b hb;omega)):=h
def fU(h:P:=by rw[Lz]at he;exact he.symm):=h
def fV(h:P:=by
 intro ds tj;rcases List.mem_append.1 tj with hh|hh;·exact h2 ds hh
 ·rw[List.mem_singleton]at hh;rw[hh];exact hW.len hx):=h
def fW(h:P:=by rcases j with _|_|_|_|_|j<;>simp[jv]at hu<;>subst hu<;>first|exact i0|exact i1'|exact i2|exact i3|exact i4):=h
def fX(h:P:=by intro j a' h;cases h):=h
def fY(h:P:=by simpa using hq):=h
def fZ(h:P:=by
 cases hT:sH xs a with
 |ok v=>exact⟨v,rfl⟩
 |error e=>rw[hT]at h4;exact absurd h4 (by simp[Cw])):=h
def ge(h:P:=by
 have hd:=HDD.out;rw[hP]at hd;obtain rfl:R=false:=by simpa using hd
 clear hd;go_wp2_with fail;go_ret;exact⟨rfl,ZM⟩):=h
def gg(h:P:=by simpa using hp):=h
def gh(h:P:=by simp at hb;omega):=h
def gj(h:P:=by
 rcases hc with hc|hc;·rw[hv b (by simp only[List.mem_cons];exact .inr (by simpa using hl))]at hc;cases hc
 ·exact hc):=h
def gm(h:P:=by rw[List.getElem?_eq_getElem EK]at hx;injection hx):=h
def gp(h:P:=by rw[List.getElem?_eq_getElem XB]at hy;injection hy):=h
def gq(h:P:=by rw[getD_set_ne true Xp];exact hS):=h
def gt(h:P:=by exact⟨(World.cell?_setCell_other _ _ _ _ (by intro he;injection he with _ he _;exact e he)).trans this.1,this.2⟩):=h
def gu(h:P:=by go_wp2_with fail;refine bodyPost_end (results_none rfl _ _ _) rfl ?_;exact⟨rfl,SZ,KH.trans Dy,ZQ.trans YS⟩):=h
def gv(h:P:=by
 have hA:A=some ⟨g,0,none⟩:=by injection hv
 exact .inr ⟨g,cap,cur,hv,hbg,(hb g (by rw[hA];rfl)).trans hg,hr⟩):=h
def gw(h:P:=by have:=HT2.out;omega):=h
def gy(h:P:=by obtain⟨uQ,h1,h2,_⟩:=h;rw[<-h2];exact h1.len):=h
def gB(h:P:=by rcases hb with h|h;(have:=hX b h;omega);exact h.2):=h
def gC(h:P:=by rcases hb with h|h<;>omega):=h
def gD(h:P:=by rcases hq with h|h;(have:=hX _ h;omega);exact h.2):=h
def gE(h:P:=by refine bodyPost_ret (results_none rfl _ _ _) rfl ?_;exact⟨rfl,A5,m+1,c5,SP,KF.setAt (Ov) _ _,DP.setAt _ _⟩):=h
def gF(h:P:=by rw[De.out];first|rfl|(by_cases h:jk=3<;>simp[h])):=h
def gG(h:P:=by unfold Bo;kernel_rfl):=h
def gH(h:P:=by obtain⟨uQ,h1,h2,h3⟩:=h;exact⟨uQ,h1.keep hk hY,h2,fun i hi YT=>(h3 i hi YT).keep hk hY⟩):=h
def gI(h:P:=by rw[List.drop_zero];exact HKK.out):=h
def gJ(h:P:=by
 rcases Nat.lt_or_ge j all.length with h|h;·exact h
 ·rw[List.drop_of_length_le h]at hd;cases hd):=h
def gK(h:P:=by rw[hm,if_pos rfl];exact yC hi (fun Q' hQ'=>h Q' (fun a' w' hb hp=>hQ' a' w' ⟨hb,hp⟩))):=h
def gL(h:P:=by have:=hb.2.1;omega):=h
def gM(h:P:=by have:=u5 j;go_simp):=h
def gN(h:P:=by obtain⟨z1,z2⟩:=List.getElem?_eq_some_iff.1 hx;rw[<-z2];exact List.drop_eq_getElem_cons z1):=h
def gO(h:P:=by rcases hb with h|h;exact .inl h;exact .inr h.1):=h
def gP(h:P:=by simp only[Bool.not_eq_true',List.any_eq_false,Bool.not_eq_true',Bool.not_eq_false]at hl;exact hl x hx):=h
def gQ(h:P:=by unfold By at*;rw[Lib.heap_setCell_same h];rfl):=h
def gS(h:P:=by
 rcases g5 with g5|g5;·exact Iy (g5.symm.trans he)
 ·rw[he]at g5;injection g5 with g5;omega):=h
def gT(h:P:=by rintro a (rfl|rfl);all_goals(go_enter Tryz.func100,Tryz.ntmps100;go_wp2_with fail;go_ret;exact⟨rfl,rfl⟩)):=h
def gU(h:P:=by rw[<-HL.out,List.take_length]):=h
def gV(h:P:=by simp only[List.length_cons,List.length_nil,List.append_assoc,List.cons_append,List.nil_append];congr 2;omega):=h
def gX(h:P:=by rcases j with _|_|_|_|j<;>simp at hu<;>subst hu<;>first|exact y0|exact y1|exact y2|exact y3):=h
def gY(h:P:=by simp only[World.size_setCell];exact hpp4 b hb):=h
def gZ(h:P:=by simpa[tW]using hi8):=h
def ia(h:P:=by injection hv):=h
def ib(h:P:=by have:=Mo [];rw[Xu]at this;cases this;rfl):=h
def ic(h:P:=by simp at h):=h
def ie(h:P:=by unfold opt;cases tK f.aliases<;>cases f.has<;>rfl):=h
def ig(h:P:=by exact(Array.getElem?_eq_some_iff.1 h).1):=h
def ij(h:P:=by exact⟨World.cell?_setCell_same _ _ _ this.1,this.2⟩):=h
def ik(h:P:=by exact⟨rfl,(Below.refl _ _).alloc (Nat.le_refl _) _⟩):=h
def il(h:P:=by have h:=CO.out;rw[hc]at h;simp at h;omega):=h
def im(h:P:=by rw[QP.out];exact Dx):=h
def io(h:P:=by rw[List.length_replicate];exact HL.out.symm):=h
def iq(h:P:=by have:=a.at_;omega):=h
def iu(h:P:=by refine sQ ?_;go_wp2_with fail;go_ret;exact⟨by rw[HR.out];by_cases h:x.kind=kd<;>simp[h],hd⟩):=h
def iw(h:P:=by rw[hb];exact SZ):=h
def iy(h:P:=by have:=(hS.Dj b hb).1;omega):=h
def iz(h:P:=by have:=Dw.size;omega):=h
def iA(h:P:=by have:=Bv.1;rw[QP.out]at this;exact this):=h
def iB(h:P:=by rw[WW,HJ.out];exact⟨0,0,⟨#[]⟩,none,0,0,none,0,0,by rw[HE.out],Mw _ _,hb7.trans ze⟩):=h
def iC(h:P:=by rw[show({x with size:=z.int}:Nd).symbols=[]from hx.2.2.2.2.2];exact Row.nil _ _ _ _):=h
def iD(h:P:=by
 obtain rfl:R=false:=by rw[HR.out,hdd];simp
 clear HR hdd;go_wp2_with fail;go_ret;exact⟨rfl,WJ⟩):=h
def iE(h:P:=by clear Lv;go_wp2_with fail;go_ret;exact⟨rfl,Iw⟩):=h
def iF(h:P:=by unfold wi;rw[List.length_map,Kv,hE]):=h
def iG(h:P:=by rw[hx]at Ux;injection Ux):=h
def iH(h:P:=by go_wp2_with fail;rw[Exit.noGoto_ret];go_ret2;exact⟨none,0,0,rfl,(by intro m h;cases h),wI⟩):=h
def iI(h:P:=by have:=(hX b hb).1;have:=E4.2.size;omega):=h
def iJ(h:P:=by have:=hk x hx;omega):=h
def iK(h:P:=by injection h0 with h0;cases h0):=h
def iL(h:P:=by rcases hb with h|h|h;exact RB b (.inl h);exact RB b (.inr h);exact Oy b h):=h
def iM(h:P:=by rw[Array.setIfInBounds_comm _ _ (Ne.symm EK),getD_set_ne true Xp]at h;exact h):=h
def iN(h:P:=by go_enter Tryz.func262,Tryz.ntmps262;go_wp2;go_ret;exact⟨AZ (by rw[HR.out];omega),rfl⟩):=h
def iO(h:P:=by have:=ZU.choose_spec.choose_spec.choose_spec.choose_spec.2.2.2.2.1;exact this):=h
def iP(h:P:=by go_wp2_with fail;go_ret;exact⟨rfl,Ac.drewN q⟩):=h
def iQ(h:P:=by have:=a.r.Fs q b e;omega):=h
def iR(h:P:=by go_wp2_with fail;refine bodyPost_end (results_none rfl _ _ _) rfl ?_;exact⟨rfl,.inl rfl⟩):=h
def iS(h:P:=by go_wp2_with fail;refine bodyPost_end (results_none rfl _ _ _) rfl ?_;exact⟨rfl,F2,T2,O2⟩):=h
def iT(h:P:=by intro c h;have h2:=key ⟨c.toNat,c.toNat_lt⟩;simp only[UInt8.ofNat_toNat]at h2;exact h2 h):=h
def iU(h:P:=by have:=p8 j;go_simp):=h
def iV(h:P:=by rw[<-YZ];go_simp):=h
def iW(h:P:=by intro cs Xn;unfold uL at Xn;obtain⟨t,_,rfl⟩:=List.mem_map.1 Xn;rfl):=h
def iX(h:P:=by rw[hx]at hy;injection hy):=h
def iY(h:P:=by have:=ZU.choose_spec.choose_spec.choose_spec.choose_spec.2.2.2.2.1;omega):=h
def iZ(h:P:=by injection h with h;rw[<-h];exact he):=h
def ja(h:P:=by
 rcases List.mem_append.1 hk with hk|hk;·exact h2 k hk
 ·rw[List.mem_singleton.1 hk];simp):=h
def jb(h:P:=by go_enter Tryz.func262,Tryz.ntmps262;go_wp2;go_ret;exact⟨AZ (by rw[HR.out]),rfl⟩):=h
def jd(h:P:=by have:=List.sizeOf_lt_of_mem hx;simp at hj;omega):=h
def je(h:P:=by have:=SV b hb;have:=SW.size;omega):=h
def jf(h:P:=by rw[List.drop_eq_nil_iff];simp;omega):=h
def jg(h:P:=by simp[h]):=h
def jh(h:P:=by rcases Nu with⟨ht1,ht2⟩|ht1;all_goals(go_wp2_with fail;go_ret;exact⟨rfl,Ac⟩)):=h
def jl(h:P:=by repeat' (first|with_reducible exact sa.of x8|with_reducible refine sa.setAt ?_ _ _)):=h
def jm(h:P:=by repeat' (first|with_reducible exact sa.of hb7|with_reducible refine sa.setAt ?_ _ _)):=h
def jn(h:P:=by rw[List.take_add_one,List.getElem?_eq_getElem Mn,List.map_append];rfl):=h
def jo(h:P:=by exact⟨v,Or.inl ⟨hw,fun w' _=>hy w'⟩,h⟩):=h
def jp(h:P:=by exact⟨v,Or.inl ⟨hw,hy⟩,h⟩):=h
def jq(h:P:=by injection h with h;rw[<-h];decide):=h
def jr(h:P:=by rw[<-r2];exact r1.len):=h
def jt(h:P:=by go_wp2_with fail;go_ret;exact⟨own,A,n,c,rfl,by rw[List.append_nil];exact S2,K2⟩):=h
def ju(h:P:=by have:=h.nm;omega):=h
def jw(h:P:=by have:=hX b hb;have:=S2.r.lt;omega):=h
def jx(h:P:=by simpa using hr):=h
def jy(h:P:=by intro b hb;simp at hb):=h
def jz(h:P:=by simp[Program.elem,ht]):=h
def jB(h:P:=by injection YW with YW;injection YW with h1 h2;exact⟨h1,h2⟩):=h
def jD(h:P:=by obtain⟨t,_,rfl⟩:=List.mem_map.1 Xn;rw[List.mem_singleton]at hu;subst hu;rfl):=h
def jE(h:P:=by simp[Ef,hl]):=h
def jF(h:P:=by exact Nat.le_refl _):=h
def jG(h:P:=by exact P5.setAt (Ov) _ _):=h
def jH(h:P:=by go_wp2_with fail;go_ret;exact⟨rfl,ZL⟩):=h
def jI(h:P:=by go_wp2_with fail;go_ret;exact⟨rfl,Ot⟩):=h
def jJ(h:P:=by have:=(List.getElem?_eq_some_iff.1 hx).1;have:=hS.row.len;omega):=h
def jK(h:P:=by injection h with h;injection h with h1 h2;subst h2;exact⟨rfl,ZV.1⟩):=h
def jM(h:P:=by rw[List.length_set];exact h.len):=h
def jP(h:P:=by rw[Lz]at hb;exact(Xl b hb).1):=h
def jQ(h:P:=by simpa using Xp):=h
def jR(h:P:=by unfold xj;simp only[hq,Bool.and_true,decide_eq_true_eq];omega):=h
def jS(h:P:=by have:=Cv.size;omega):=h
def jU(h:P:=by simp[hj]):=h
def jV(h:P:=by go_wp2_with fail;go_ret;exact⟨rfl,vb⟩):=h
def jW(h:P:=by go_wp2_with fail;go_ret;exact⟨rfl,ze⟩):=h
def jX(h:P:=by have:=(Sd.r.lo b hl).2.1;omega):=h
def jY(h:P:=by rw[List.take_add_one,List.getElem?_eq_getElem Mn,<-hk1];rfl):=h
def j5(h:P:=by cases f with|zero=>simp at hu;omega|succ f=>exact⟨f,rfl⟩):=h
def j6(h:P:=by obtain⟨h6,h7,_⟩:=yc h4;exact⟨h6,by rw[h2,h5,h7];simp[Mb],h3⟩):=h
def j7(h:P:=by have h1:tk.length=x.fields.length:=HLT.out;have:=ha.2;omega):=h
def j8(h:P:=by have:=wI.size;omega):=h
def j9(h:P:=by rcases j with _|j<;>simp at hu;subst hu;unfold sv;exact ck2):=h
def ke(h:P:=by rw[E3.out];rfl):=h
def kg(h:P:=by rw[HX0.out]<;>omega):=h
def kh(h:P:=by rw[h]at hr;cases hr):=h
def ki(h:P:=by simpa using hk):=h
def kj(h:P:=by unfold Em;rw[Int.toNat_natCast,List.getElem?_map,hx];rfl):=h
def kl(h:P:=by cases h;simp[Value.oneCell']):=h
def km(h:P:=by exact absurd rfl h):=h
def ko(h:P:=by injection g0 with g0;cases g0):=h
def kq(h:P:=by intro nx R h;simp only[AV,Option.some.injEq]at h;subst h;exact .nil nx):=h
def ku(h:P:=by rw[List.length_append];omega):=h
def kw(h:P:=by have:=hS.at_;omega):=h
def ky(h:P:=by
 intro j hj;rcases List.mem_cons.1 hj with rfl|hj;·omega
 ·exact h4 j hj):=h
def kz(h:P:=by have:=SW.size;have:=SX.size;omega):=h
def kA(h:P:=by rw[yN,hr.1];omega):=h
def kB(h:P:=by rw[BG _ _ _ rfl];rfl):=h
def kC(h:P:=by rw[wa,if_pos (.inr ⟨rfl,Ux⟩)]):=h
def kD(h:P:=by rw[<-Bool.or_assoc,hv];rfl):=h
def kE(h:P:=by have:=hz1.size;omega):=h
def kF(h:P:=by rcases hb with h|h;(have:=h.1;have:=h.2.1;omega);omega):=h
def kG(h:P:=by rw[List.drop_eq_getElem_cons ha];simp[pk,List.getD,ha]):=h
def kH(h:P:=by rw[List.take_of_length_le (List.drop_eq_nil_iff.1 hd)]):=h
def kI(h:P:=by unfold zQ;rw[if_pos HR.out,if_neg (by rw[hv];simp)]):=h
def kJ(h:P:=by exact⟨undef,Or.inr ⟨hw,rfl⟩,h⟩):=h
def kK(h:P:=by first|trivial|rfl):=h
def kL(h:P:=by have:=List.sizeOf_lt_of_mem hx;simp only[J.mk.sizeOf_spec]at hj;omega):=h
def kN(h:P:=by rcases j with _|_|j<;>simp at hu<;>subst hu<;>go_simp):=h
def kO(h:P:=by obtain⟨cur,fz,e⟩:=Sa ho he;exact hn _ _ e):=h
def kP(h:P:=by rw[List.getElem?_eq_getElem Rv]at Rt;injection Rt):=h
def kQ(h:P:=by simp only[List.length_cons,List.length_append,List.length_nil];omega):=h
def kS(h:P:=by exact(yt RD _).Yn):=h
def kT(h:P:=by exact⟨⟨Nat.lt_of_lt_of_le a.1 b.size,by rw[e];exact a.2⟩,e⟩):=h
def kU(h:P:=by rw[HL.out];exact ho.2.2.2):=h
def kV(h:P:=by rw[List.take_add_one,hx];simp):=h
def kX(h:P:=by simp only[List.length_cons];omega):=h
def kY(h:P:=by simpa using h3):=h
def kZ(h:P:=by unfold yS;rw[if_neg hd,if_pos hsb,if_pos rfl]):=h
def la(h:P:=by
 unfold zQ at h;split at h;·assumption
 ·cases h):=h
def ld(h:P:=by rw[List.getElem?_eq_getElem YT]at hx;injection hx):=h
def lf(h:P:=by rw[List.getElem?_eq_getElem YX]at hy;injection hy):=h
def lg(h:P:=by simpa using hb.2):=h
def lh(h:P:=by cases j;simp only[J.mk.sizeOf_spec];simp only[J.items]at h1;omega):=h
def li(h:P:=by rintro rfl;rcases hb with h|h;exact Xo.1 h;omega):=h
def lk(h:P:=by rintro rfl;rcases hb with h|h;exact Xo.2 h;omega):=h
def ll(h:P:=by simp only[List.length_append,List.length_cons,List.length_nil,h3]):=h
def lm(h:P:=by unfold sr;simp;omega):=h
def lp(h:P:=by rcases hq with h|h;(have:=h.2.1;omega);exact h.2):=h
def lq(h:P:=by have:=h.1;omega):=h
def lr(h:P:=by rw[De.out];rfl):=h
def ls(h:P:=by rw[Lv.out];rfl):=h
def lu(h:P:=by have:=(List.getElem?_eq_some_iff.1 hx).1;omega):=h
def lv(h:P:=by rw[hx]at hxa;injection hxa with h;exact h.symm):=h
def lw(h:P:=by simp at this;omega):=h
def lx(h:P:=by have g1:=hcc 1 _ f1;rw[z2]at g1;injection g1 with g1;cases g1):=h
def ly(h:P:=by rw[List.length_set,List.length_set];exact hyl):=h
def lz(h:P:=by rw[Ko];exact h2):=h
def lA(h:P:=by cases f with|zero=>rfl|succ f=>simp[vB,h9]):=h
def lB(h:P:=by rw[PE.out,<-hb];exact ta C3 b 30):=h
def lC(h:P:=by simp[hc]):=h
def lD(h:P:=by unfold WL;rw[Y1];unfold OM;rw[HF.out,YU]):=h
def lF(h:P:=by unfold pk;rw[List.getD,List.getElem?_eq_none h'];rfl):=h
def lG(h:P:=by
 go_wp2_with fail;refine sG P3 fun w7 B7=> ?_
 clear P3 f0;have S7:=B7.st S6;have hz7:=B7.2.size;have O7:=O6.sY V B7.2;have J7:=J6.off B7.2 V V;have R7:=R6.off B7.2 V V;have F7:=F6.off B7.2 Y0 V;have hj7:=hj6.xh B7.2 bq;clear S6 O6 J6 R6 F6 hj6 B7;go_upto_region 9 with fail;refine vO (K:=Kb (fun b=>b=g\/b=w5.heap.size)) (Kb.keeps _) (sA.of [0,1,2,3,4,5,6,7] .nil) 8 (sA.of [] .nil) [6] [4,5] bm bm bF bm bt (fun wd hd tj=> ?_);have S8:=S7.below hd;have hz8:=hd.size;have O8:=O7.sY V (sa.of hd);have J8:=J7.below hd V;have R8:=R7.below hd V;have F8:=F7.below hd V;have hj8:=hj7.stay hd bq;clear S7 O7 J7 R7 F7 hj7 hd tj;have d0:=S8.cl.c0;have d1:=S8.cl.c1;have f0:=F8.c 0 _ rfl;have hg8:=S8.cl.lt;refine aT ?_;refine uC rfl rfl 0 (Nat.le_refl _) (fun Q1 tv=> ?_);have hfn:=LG S 0 full wd _ A n c S8.r.Ft S8.r.Ms (by have:=S8.r.le;omega);have hE2x:=YM.out;generalize Ab (S.map td) full=FI at*;have HE2':=Lib.hid hE2x;clear hE2x;go_wp2_with fail;refine sG hfn fun w9 hb9=> ?_
 clear hfn;go_wp2_with fail;refine tv _ _ (Kb.below bP hb9) ?_;clear tv d0 d1 f0;have S9:=S8.below hb9;have hz9:=hb9.size;have O9:=O8.sY V (sa.of hb9);have J9:=J8.below hb9 V;have R9:=R8.below hb9 V;have F9:=F8.below hb9 V;have hj9:=hj8.stay hb9 bq;clear S8 O8 J8 R8 F8 hj8 hb9;refine aK ?_;refine Az rfl (fun Q1 tv=> ?_);have P3:=ta S9.cl (decide (0<=FI)) 32;rw[<-HE2'.out]at P3;go_wp2_with fail;refine sG P3 fun w10 B10=> ?_
 clear P3 HE2';go_wp2_with fail;refine tv _ _ trivial ?_;clear tv;refine sF ?_;have S10:=B10.st S9;have hz10:=B10.2.size;have O10:=O9.sY V B10.2;have J10:=J9.off B10.2 V V;have R10:=R9.off B10.2 V V;have F10:=F9.off B10.2 V V;have hj10:=hj9.xh B10.2 bq;clear S9 O9 J9 R9 F9 hj9 B10;go_upto_region 10 with fail;refine vO (K:=Kb (fun b=>b=w.heap.size\/b=w5.heap.size)) (Kb.keeps _) (sA.of [0,1,2,3,4,5,6] .nil) 7 (sA.of [] .nil) [5] [1,3] bm bm bF bm bt (fun wh hd tj=> ?_);have S11:=S10.below hd;have hz11:=hd.size;have O11:=O10.sY V (sa.of hd);have J11:=J10.below hd V;have R11:=R10.below hd V;have F11:=F10.below hd V;have hj11:=hj10.stay hd bq;clear S10 O10 J10 R10 F10 hj10 hd tj;obtain⟨b0,b1,b2,b3,b4, -⟩:=J11.xe;have f0:=F11.c 0 _ rfl;have hg11:=S11.cl.lt;have h2:=S11.at_;refine aV ?_;refine uC rfl rfl 0 (Nat.le_refl _) (fun Q1 tv=> ?_);have hla:=Ee (fun s=>FP (vT (sO full) s)) j RD S11.cl X k i t B m d B' m' d' hj11 hX 211 (enters_of Tryz.func211 bm rfl) #[sg w5.heap.size] (fun s hs w' ho=>Ra full s V hs w5.heap.size w' ((ho.cell (p:=rN w5.heap.size 0) bl bl).trans f0) (yw S11.zL fun b hb=>ho.block b V V));rw[<-YL.out]at hla;go_wp2_with fail;refine hla.mono ?_;rintro e' Wk ⟨A1,n1,c1,rfl,r12,hc12,B12⟩;clear hla b0 b1 b2 b3 b4 f0;go_wp2_with fail;refine tv _ _ (Kb.off bP B12.2) ?_;clear tv;have hz12:=B12.2.size;have O12:=O11.sY V B12.2;have R12:=R11.off B12.2 V V;have C12:=B12.1;clear S11 O11 J11 R11 F11 hj11 B12 YL YM;refine aK ?_;obtain⟨s0,s1,s2,s3,s4,s5,s6,s7,s8,s9,rf⟩:=R12.xX;refine Az rfl (fun Q1 tv=> ?_);go_wp2_with fail;refine tv _ _ trivial ?_;clear tv;refine sF ?_;have R13:=((((((((((R12.set 0 (.int .i64 kind)).set 1 (.string ⟨full.toArray⟩)).set 2 (.slice A1 n1 c1)).set 3 (.slice none 0 0)).set 4 (.slice none 0 0)).set 5 (.bool false)).set 6 (.string ⟨#[]⟩)).set 7 (.int .i64 0)).set 8 (.int .i64 0)).set 9 (.slice none 0 0));simp only[List.set_cons_zero,List.set_cons_succ]at R13;go_wp2_with fail;refine bodyPost_ret (aas rfl rfl R13 dq) rfl ?_;have O13:∀u0 u1 u2 u3 u4 u5 u6 u7 u8 u9,sa (w.heap.size+1) Wk.heap.size Wk ((((((((((Wk.setCell ⟨w.heap.size+1,0,none⟩ u0).setCell ⟨w.heap.size+1,1,none⟩ u1).setCell ⟨w.heap.size+1,2,none⟩ u2).setCell ⟨w.heap.size+1,3,none⟩ u3).setCell ⟨w.heap.size+1,4,none⟩ u4).setCell ⟨w.heap.size+1,5,none⟩ u5).setCell ⟨w.heap.size+1,6,none⟩ u6).setCell ⟨w.heap.size+1,7,none⟩ u7).setCell ⟨w.heap.size+1,8,none⟩ u8).setCell ⟨w.heap.size+1,9,none⟩ u9):=fun u0 u1 u2 u3 u4 u5 u6 u7 u8 u9=>bu
 have O13':=O13 (.int .i64 kind) (.string ⟨full.toArray⟩) (.slice A1 n1 c1) (.slice none 0 0) (.slice none 0 0) (.bool false) (.string ⟨#[]⟩) (.int .i64 0) (.int .i64 0) (.slice none 0 0);have hz13:=O13'.size;exact⟨A1,n1,c1,rfl,r12.keep (fun q hq=>O13'.cell V V) (fun b hb=>⟨V,V⟩),hc12,C12.keep hz13 (O13'.block g V V),O12.trans (sa.of (O13'.below (B':=w.heap.size) V V))⟩):=h
def lH(h:P:=by
 go_wp2_with(at_builtin;go_must(refine wV (z:=jA 0 0 ⟨#[]⟩ none 0 0 none 0 0) (bytes:=80) (y:=x) (cs:=jv k i t Ax nx cx Ay ny cy) rfl Tryz.underlying58 yP rfl V V ve rfl rfl J3 xi (fun b hb=>(K3.block b hb).2.1) (fun j u hu=>dC) V V ?_);intro Bi ei z4 J4 fb4 gi4 hi4);have hne4:∀b,(b=o\/b=w.heap.size\/b=B1)->b<z3.heap.size/\A.map (·.block)≠some b:=fun b hb=>⟨eF,fun he=>by have:=adq b he;omega⟩
 refine tv _ _ (Kb.DZ hne4 gi4) (Kb.DZ (fun b hb=>hne4 b (.inr (.inr hb))) gi4) ?_;clear tv;have K4:=K3.DZ uz gi4 hi4;have f4:=f3.trans fb4;have sz4:=gi4.1;have oe4:=(gi4.2 o (hne4 o (.inl rfl)).1 (hne4 o (.inl rfl)).2).trans oe3;have be4:=(gi4.2 B1 (hne4 B1 (.inr (.inr rfl))).1 (hne4 B1 (.inr (.inr rfl))).2).trans be3;have hpl4:∀b,(b=o\/b=w.heap.size)->b<z4.heap.size:=fun b hb=>by have:=XA b hb;omega
 have hpp4:∀b,b=B1->b<z4.heap.size:=fun b hb=>by have:=ZT b hb;omega
 have wm4:w.heap.size<z4.heap.size:=V;refine aJ ?_;have JO:=hJo.keep (w':=z4) (fun j=>World.cell?_of_block (w:=w1) (a:=rN o j) oe4) (fun j=>World.frozen?_of_block (w:=w1) (a:=rN o j) oe4);have BO:=(World.cell?_of_block (w:=w1) (a:=rN B1 0) be4).trans hB1;have osz:=hpl4 o (.inl rfl);obtain⟨⟨u0,u1,u2,u3,u4⟩,u5⟩:=JO;have Lz:¬o=B1:=fun h=>SZ h.symm
 refine NT rfl (fun Q1 tv=> ?_);go_wp2_with fail;refine tv _ _ (fun b hb=>((sa.refl o z4.heap.size z4).setAt 4 _).block b (hpp4 b hb) iw) ?_;clear tv;refine ah ?_;refine se rfl rfl 0 (Nat.le_refl _) (fun Q1 tv=> ?_);go_wp2_with fail;refine tv _ _ (fun b hb=>((sa.refl o (z4.setCell ⟨o,4,none⟩ (.slice Bk (n'+1) ek)).heap.size _).setAt 3 _).block b gY iw) ?_;clear tv;refine sF ?_;go_wp2_with fail;refine bodyPost_end (results_none rfl _ _ _) rfl ?_;have hSo:¬S o:=fun h=>(hSb o h).2.1 rfl
 refine⟨rfl,⟨Bi,n+1,ei,Bk,n'+1,ek,bi,⟨⟨bi,bi,bi,bi,bi⟩,fun j=>gM⟩,(J4.setAt ve hp2 hSo 4 _).setAt ve hp2 hSo 3 _,(K4.setAt uz hp2 (fun h=>h) 4 _).setAt uz hp2 (fun h=>h) 3 _,⟨hp1,hp2,SZ,by simp;omega⟩,hSb⟩,?_⟩;exact((sa.of (sK.mono hwH)).trans ((sa.of (Bv.mono V)).trans (sa.of f4))).setAt 4 _|>.setAt 3 _):=h
def lI(h:P:=by
 clear hsx;go_upto_region 6 with fail;clear b0 b1 b2 b3 b4 b5 b6 b7 b8 b9 bz cc2 cc3 cz yh;generalize w2.setCell _ _=w4 at*;obtain⟨⟨b0,b1,b2,b3,b4,b5,b6,b7,b8,b9⟩,bz⟩:=N4;go_wp2_with fail;refine sG (yd x.name w4) fun w5 Cv=> ?_
 have hz5:=Cv.size;have R5:=R4.below Cv V;have S5:=S4.below Cv V;have O5:=O4.trans (sN.below (Cv.mono V));clear b0 b1 b2 b3 b4 b5 b6 b7 b8 b9 bz;obtain⟨⟨u0,u1,u2,u3,u4⟩,u5⟩:=R5;go_wp2_with fail;refine bodyPost_ret (uX (k:=4) (i:=0) (t:=⟨(x.name).toArray⟩) (A:=none) (n:=0) (c:=0) (A':=none) (n':=0) (c':=0) rfl rfl ⟨bi,bi,bi,bi,bi⟩) rfl ?_;have yG:sa w.heap.size w5.heap.size w5 (((((w5.setCell ⟨w.heap.size,0,none⟩ (.int .i64 4)).setCell ⟨w.heap.size,1,none⟩ (.int .i64 0)).setCell ⟨w.heap.size,2,none⟩ (.string ⟨(x.name).toArray⟩)).setCell ⟨w.heap.size,3,none⟩ (.slice none 0 0)).setCell ⟨w.heap.size,4,none⟩ (.slice none 0 0)):=(((((sa.refl _ _ _).setAt 0 _).setAt 1 _).setAt 2 _).setAt 3 _).setAt 4 _;have ze:Below w.heap.size w5 _:=yG.below V (Nat.le_refl _);exact⟨4,0,⟨(x.name).toArray⟩,none,0,0,none,0,0,rfl,ya _ _ _,S5.keep yG.size (fun b hb=>ze.block b V),O5.trans (sN.below ze)⟩):=h
def lJ(h:P:=by
 have hsr:AK S=xS S (33+1) [] 0 (List.replicate n false,false):=by unfold AK;rw[HL.out]
 have e0:((0:Nat):Int).toNat=0:=rfl;rw[e0,<-hsr]at FO;clear hsr e0 Xw S5 c0 c1 c2 c3 cz M5 hr5 hG5 HC;refine aJ ?_;refine NT rfl (fun Q1 tv=> ?_);go_wp2_with fail;refine tv _ _ ((Kb.keeps _).refl 0 _) ?_;clear tv;refine sF ?_;go_wp2_with fail;refine FO.mono ?_;rintro e' w6 ⟨kk,ii,tt,Ax,nx,cx,Ay,ny,cy,rfl,hj6,S6,hO6⟩;clear FO;have hz6:=hO6.size;have R6:=R5.AA (hO6.block (w.heap.size+1) V V V);have x8:=Cv.trans (hO6.out (B':=w.heap.size) V V V);have al7:=(Below.refl w6.heap.size w6).al (Nat.le_refl _) (jC kk ii tt Ax nx cx Ay ny cy);have J7:=vW.new w6 kk ii tt Ax nx cx Ay ny cy w6.heap.size rfl;have v3:=al7.cl S6.c3 V;have R7:=R6.below al7 V;have Uw:=al7.s1;have hb7:=x8.trans (al7.mono (B':=w.heap.size) V);have hj7:=hj6.keep (w':=w6.alloc (jC kk ii tt Ax nx cx Ay ny cy)) (Y:=fun b=>(w.heap.size+2<=b/\b<w6.heap.size)) (fun q hq=>al7.cell lp) (fun b hb=>kF);clear R5 R6 S6 hO6 Cv x8 al7 hj6 e5;go_upto_region 5 with fail;generalize w6.alloc _=w7 at*;have hs7a:w7.heap.size<=w6.heap.size+1:=V;have hs7b:w6.heap.size+1<=w7.heap.size:=V;clear Uw;obtain⟨⟨u0,u1,u2,u3,u4⟩,u5⟩:=R7;obtain⟨⟨v0',v1',v2',v3',v4'⟩,v5'⟩:=J7;cases hv:(AK S).2.2 with
 |true=>rw[hv]at v3;have HE:=Lib.hid (show zQ S 0=31 by unfold zQ;rw[if_pos HR.out,if_pos hv]);have HJ:=Lib.hid (show uZ S 0=J.zero by unfold uZ;rw[HE.out];rfl);clear hv;go_wp2_with fail;refine bodyPost_ret (A9 (te:=.int .i64 31) (k:=0) (i:=0) (t:=⟨#[]⟩) (A:=none) (n:=0) (c:=0) (A':=none) (n':=0) (c':=0) rfl rfl rfl ⟨bi,bi,bi,bi,bi⟩) rfl ?_;have yG:sa (w.heap.size+1) w7.heap.size w7 (((((w7.setCell ⟨w.heap.size+1,0,none⟩ (.int .i64 0)).setCell ⟨w.heap.size+1,1,none⟩ (.int .i64 0)).setCell ⟨w.heap.size+1,2,none⟩ (.string ⟨#[]⟩)).setCell ⟨w.heap.size+1,3,none⟩ (.slice none 0 0)).setCell ⟨w.heap.size+1,4,none⟩ (.slice none 0 0)):=(((((sa.refl _ _ _).setAt 0 _).setAt 1 _).setAt 2 _).setAt 3 _).setAt 4 _;have ze:Below w.heap.size w7 _:=yG.below V V;exact iB
 |false=>rw[hv]at v3;have HE:=Lib.hid (show zQ S 0=0 from kI);have HJ:=Lib.hid (show uZ S 0=(AK S).1 by unfold uZ;rw[if_pos HE.out]);clear hv;go_wp2_with fail;refine bodyPost_ret (A9 (te:=.int .i64 0) (k:=kk) (i:=ii) (t:=tt) (A:=Ax) (n:=nx) (c:=cx) (A':=Ay) (n':=ny) (c':=cy) rfl rfl rfl ⟨bi,bi,bi,bi,bi⟩) rfl ?_;have yG:sa (w.heap.size+1) w7.heap.size w7 (((((w7.setCell ⟨w.heap.size+1,0,none⟩ (.int .i64 kk)).setCell ⟨w.heap.size+1,1,none⟩ (.int .i64 ii)).setCell ⟨w.heap.size+1,2,none⟩ (.string tt)).setCell ⟨w.heap.size+1,3,none⟩ (.slice Ax nx cx)).setCell ⟨w.heap.size+1,4,none⟩ (.slice Ay ny cy)):=(((((sa.refl _ _ _).setAt 0 _).setAt 1 _).setAt 2 _).setAt 3 _).setAt 4 _;have ze:Below w.heap.size w7 _:=yG.below V V;rw[WW,HJ.out];exact⟨kk,ii,tt,Ax,nx,cx,Ay,ny,cy,by rw[HE.out],hj7.keep (fun q hq=>yG.cell (by have:=hq.2;omega) (by have:=hq.1;omega)) (fun b hb=>⟨by have:=hb.1;omega,by have:=hb.2;exact dK⟩),hb7.trans ze⟩):=h
def lK(h:P:=by
 rw[h3]at hin;go_wp2_with fail;refine tZ (hin w3) ?_;cases hv:Gg cc with
 |none=>rw[hv]at HQ;simp only at HQ;go_wp2_with fail;refine sT [0,1,2,3,4,5,6,7,8,9,10,11,12,13] [] bm bm bA bm bt (fun wd hd tj=> ?_);have GM:=Lib.hid (xl.below ab0 hd YZ);exact dg
 |some dd=>
  obtain⟨hd16,Iy⟩:=hvl dd hv;have hbn:=hpn Iy;rw[hv]at HQ;simp only at HQ;have KH:=RF u dd pY hd16;have hu3:u<4096:=pY;have d1:decide ((n:Int)<=b)=false:=by simp;omega
  have d2:decide (n<=b)=false:=by simp;omega
  go_wp2_with fail;refine sT [0,1,2,3,4,5,6,7,8,9,10,11,12,13] [] bm bm bA bm bt (fun wd hd tj=> ?_);have GM:=Lib.hid (xl.below ab0 hd YZ);have Gf:=abK.trans ((sa.of hd (g:=g)).mono WJ);have hs4:g<wd.heap.size:=V;refine ac ?_;refine sQ ?_;obtain⟨⟨r0,r1,r2,r3⟩,k1,k2,k3⟩:=GM.out;have hor':bits BinOp.or IntKind.i32 ((u:Int)*16) (dd:Int)=((u*16+dd:Nat):Int):=by simpa using KH
  have HOR:=Lib.hid hor';have hpow:16^(j+1)=16^j*16:=Nat.pow_succ ..;have HPW:=Lib.hid hpow;clear hor' hpow;go_wp2;have e5:((b+1:Nat):Int)=(b:Int)+1:=V;refine⟨⟨j+1,b+1,u*16+dd,bA,V,by rw[HOR.out],by rw[HPW.out];omega,V,HQ.out,by rw[e5];exact px,Gf.setAt 1 _,by simpa using hs4⟩,?_⟩;exact bN):=h
def lL(h:P:=by
 go_wp2_with fail;cases PZ:Ut.yR N1
 ·rw[PZ]at DQ;rw[if_neg bA,if_neg bA]at DQ;have HCH:=Lib.hid PZ;clear PZ;refine DQ.mono ?_;rintro e' w6 ⟨A6,m6,c6,rfl,Jq,x8⟩;have hx6:=Lt.out.below x8 (Ov);have Y0:base<=w6.heap.size:=ej;have Hw:=DP.trans (sa.of x8);clear r0 r1 r2 r3 k1 k2 k3 KF DP x8 P6 IQ Lt DQ;go_wp2_with fail;refine sG (uO g A A' n c m d (a1:Int) 0 20 w6 hx6 V) fun w7 ⟨KJ,Ns⟩=> ?_
  rw[if_pos rfl]at KJ;have P5:=Jq.off Ns (Ov);have zM:=Hw.trans (Ns.mono V);clear hx6 Jq Hw Ns;obtain⟨⟨r0,r1,r2,r3⟩,k1,k2,k3⟩:=KJ;go_wp2_with fail;refine bodyPost_end (results_none rfl _ _ _) rfl ?_;refine⟨rfl,A6,m6,c6,?_,?_,zM.setAt _ _⟩;·rw[HEE.out,HCH.out,if_neg bA];exact px
  ·rw[HYY.out,HCH.out,if_neg bA];exact jG
 ·exact po):=h
def lM(h:P:=by
 have hz2:=O2.size;refine sR (K:=Kb (fun b=>b=w.heap.size\/b=w.heap.size+2)) (Kb.keeps _) (sA.of [0,1,2,3,4,5] .nil) [4] bm bm bF bm bt (fun wd hd tj=> ?_);obtain⟨b0,b1,b2,b3,b4, -⟩:=(J2.below hd V).xe;simp only[List.set_cons_zero,List.set_cons_succ]at V2;obtain⟨v0,v1,v2,v3,v4,v5,vf⟩:=(V2.below hd V).xw;have Rd:=R2.below hd V;have Bv:=Gu.trans (hd.mono (B':=w.heap.size) V);have hzd:=hd.size;refine aX ?_;obtain⟨s0,s1,s2,s3,s4,s5,rf⟩:=Rd.xw;refine se rfl rfl 0 (Nat.le_refl _) (fun Q1 tv=> ?_);go_wp2_with fail;refine tv _ _ (fun b hb=> ?_) ?_;·exact pu
 refine aO ?_;refine sF ?_;go_wp2_with fail;refine bodyPost_ret (wR rfl rfl rfl ((((((Rd.set 0 _).set 1 _).set 2 _).set 3 _).set 4 _).set 5 _)) rfl ?_;refine⟨_,_,_,_,_,_,_,_,_,_,_,_,gF,?_⟩;exact pG):=h
def lN(h:P:=by exact pu):=h
def lO(h:P:=by exact po):=h
def lP(h:P:=by exact px):=h
def lQ(h:P:=by rw[if_pos rfl]at h2;have hs2:=YR.size;have JR2:=JR1.off YR V V;have Nt:=SY.trans (YR.mono V);obtain⟨⟨u0,u1,u2,u3,u4⟩,u5⟩:=JR2;go_wp2_with fail;have Ck:sa w.heap.size w2.heap.size w2 (((((w2.setCell ⟨w.heap.size,0,none⟩ (.int .i64 0)).setCell ⟨w.heap.size,1,none⟩ (.int .i64 0)).setCell ⟨w.heap.size,2,none⟩ (.string ⟨#[]⟩)).setCell ⟨w.heap.size,3,none⟩ (.slice none 0 0)).setCell ⟨w.heap.size,4,none⟩ (.slice none 0 0)):=(((((sa.refl _ _ _).setAt 0 _).setAt 1 _).setAt 2 _).setAt 3 _).setAt 4 _;refine bodyPost_ret (uX (k:=0) (i:=0) (t:=⟨#[]⟩) (A:=none) (n:=0) (c:=0) (A':=none) (n':=0) (c':=0) rfl rfl ⟨bi,bi,bi,bi,bi⟩) rfl ?_;refine⟨0,0,⟨#[]⟩,none,0,0,none,0,0,rfl,⟨_,_,_,_,_,_,_,_,_,rfl⟩,⟨wd.next,wd,h2.off Ck V V,fX,(fun e h=>jq)⟩,?_⟩;exact pH):=h
def lR(h:P:=by
 generalize w.alloc _=w1 at*;go_loopw [3,17] (fun s3 s17 wr=>∃(j:Nat)(N':Int),s17=.int .i64 j/\j<=n/\s3=.int .i64 N'/\AD (items.drop j) N'=R/\0<=N'/\Below w.heap.size w wr) (fun _ s17 _=>n-(intOf s17).toNat);case atStart=>exact⟨0,1,rfl,Nat.zero_le _,rfl,HR.out.symm,V,sK⟩
 case
  round=>
   obtain⟨j,N',rfl,hj,rfl,hdl,hN,wI⟩:=hrel;by_cases Dx:j<n
   ·obtain⟨g,p,x,k1,i1,t1,A1,n1,c1,A2,n2,c2,rfl,hg,hx,hix,e0,e1,e2,e3,e4⟩:=zr hr hl hi Dx;have hgw:=hX g hg;have r0:=wI.cl e0 hgw;have r1:=wI.cl e1 hgw;have r2:=wI.cl e2 hgw;have r3:=wI.cl e3 hgw;have r4:=wI.cl e4 hgw;have EK:j<items.length:=cn;have hxe:items[j]=x:=gm;have hdm:=Jd items 1 j EK;rw[hxe,<-HR.out]at hdm;have hdg:=Ue x;have YQ:items.drop j=x::items.drop (j+1):=by rw[List.drop_eq_getElem_cons EK,hxe]
    rw[YQ]at hdl;unfold AD at hdl;have RE:SizeOf.sizeOf x<SizeOf.sizeOf items:=hxe▸List.sizeOf_lt_of_mem (List.getElem_mem EK);simp only[J.mk.sizeOf_spec]at hj';have hrb:=wI.size;have hal2:=(Below.refl wr.heap.size wr).al (Nat.le_refl _) (jC k1 i1 t1 A1 n1 c1 A2 n2 c2);have hih:=ih x V V (wr.alloc (jC k1 i1 t1 A1 n1 c1 A2 n2 c2)) X k1 i1 t1 A1 n1 c1 A2 n2 c2 (hix.stay (wI.sY (Nat.le_refl _) hal2) hX) eO;have Rw:(j:Int)<(n:Int):=V;generalize um x=D at*;have HDL:=Lib.hid hdl;clear hdl;go_wp2_with fail;refine sG hih fun w3 vb=> ?_
    have hwf:wrap64 (1+D)=1+D:=vw V V;have ze:=(wI.sY (Nat.le_refl _) hal2).sY bA vb;go_wp2_with fail;refine⟨⟨j+1,max N' (1+D),bA,V,rfl,HDL.out,V,ze⟩,?_⟩;exact bN
   ·obtain rfl:j=items.length:=cn;rw[List.drop_length]at hdl;unfold AD at hdl;subst hdl;have hnl:items.length=n:=cn;subst hnl;exact cJ):=h
def lT(h:P:=by
 refine aY ?_;obtain⟨s0,s1,s2,s3,s4,s5,rf⟩:=Rd.xw;refine se rfl rfl 0 (Nat.le_refl _) (fun Q1 tv=> ?_);go_wp2_with fail;refine tv _ _ (fun b hb=> ?_) ?_;·exact pw
 clear tv;refine aO ?_;refine sF ?_;go_wp2_with fail;refine bodyPost_ret (wR rfl rfl rfl ((((((Rd.set 0 _).set 1 _).set 2 _).set 3 _).set 4 _).set 5 _)) rfl ?_;refine⟨_,_,_,_,_,_,_,_,_,_,_,_,rfl,?_⟩;exact pG):=h
def lU(h:P:=by
 have hgf:g<f:=V;by_cases he:E=0
 ·obtain⟨rfl,rfl⟩:=HOK.out he;subst he;clear HOK CO;obtain⟨⟨p0,p1,p2,p3,p4,p5,p6,p7⟩,p8⟩:=SP;obtain⟨⟨f0,f1,f2,f3,f4⟩,f5⟩:=WF6;have SP:CD w6 g A n c a 0 wd:=⟨⟨p0,p1,p2,p3,p4,p5,p6,p7⟩,p8⟩;have WF6:J5 w6 f vk vn vt va N2:=⟨⟨f0,f1,f2,f3,f4⟩,f5⟩;go_upto_region 7 with fail;refine sR (K:=vp (fun p=>p.block=g)) (vp.keeps _) (sA.of [0,1,2,3,4,5,6,7,8,9,10] .nil) [7,10] bm bm bF bm bt (fun wz hd hdz=> ?_);have WN:=SP.below hd V;have WF7:=WF6.below hd V;have hb7:=x8.sY V hd;have hz7:f<wz.heap.size:=V;have Ru:g<wz.heap.size:=V;clear hd hdz SP WF6 p0 p1 p2 p3 p4 p5 p6 p7 p8 f0 f1 f2 f3 f4 f5;obtain⟨⟨p0,p1,p2,p3,p4,p5,p6,p7⟩,p8⟩:=WN;obtain⟨⟨f0,f1,f2,f3,f4⟩,f5⟩:=WF7;refine ao ?_;refine se rfl rfl (f+1) V (fun Q1 tv=> ?_);go_wp2_with fail;refine tv _ _ ?_ ?_;·exact bZ
  clear tv;refine ap ?_;refine se rfl rfl (f+1) V (fun Q1 tv=> ?_);go_wp2_with fail;refine tv _ _ ?_ ?_;·exact bZ
  clear tv;refine sF ?_;go_wp2_with fail;go_ret;refine⟨rfl,⟨⟨bi,bi,bi,bi,bi,bi,bi,bi⟩,fun j=>iU⟩,?_⟩;exact jm
 ·obtain⟨rfl,rfl,rfl⟩:=CO.out he;have he':(E==0)=false:=beq_eq_false_iff_ne.2 he;clear HOK CO;obtain⟨⟨p0,p1,p2,p3,p4,p5,p6,p7⟩,p8⟩:=SP;go_wp2_with fail;go_ret;refine⟨rfl,⟨⟨bi,bi,bi,bi,bi,bi,bi,bi⟩,fun j=>iU⟩,?_⟩;exact jl):=h
def lV(h:P:=by exact pw):=h
def lW(h:P:=by clear it6 Ob6;have Kx:Below w2.heap.size w6 w7:=KG.below V (Nat.le_refl _);have R7:=R6.below Kx V;have S7:=S6.below Kx V;have O7:=O6.trans (sN.below (Kx.mono V));have zz7:=Kx.size;clear R6 S6 O6;clear KG Kx;have hlenE:=Ob7.len;have Ow:=Ob7.isJ (by rw[<-hlenE.1];simp[opt]) (by rw[<-hlenE.2];simp[opt]);have hHo:=Ob7.2.2.2.2.1;obtain⟨_,⟨⟨o0,o1,o2,o3,o4⟩,o5⟩,_,_,_,_⟩:=Ob7;obtain⟨⟨u0,u1,u2,u3,u4⟩,u5⟩:=R7;go_wp2_with fail;refine bodyPost_ret (uX (k:=6) (i:=0) (t:=⟨#[]⟩) (A:=Q7) (n:=q7) (c:=r7) (A':=Q7') (n':=q7') (c':=r7') rfl rfl ⟨bi,bi,bi,bi,bi⟩) rfl ?_;have yG:sa w.heap.size w7.heap.size w7 (((((w7.setCell ⟨w.heap.size,0,none⟩ (.int .i64 6)).setCell ⟨w.heap.size,1,none⟩ (.int .i64 0)).setCell ⟨w.heap.size,2,none⟩ (.string ⟨#[]⟩)).setCell ⟨w.heap.size,3,none⟩ (.slice Q7 q7 r7)).setCell ⟨w.heap.size,4,none⟩ (.slice Q7' q7' r7')):=(((((sa.refl _ _ _).setAt 0 _).setAt 1 _).setAt 2 _).setAt 3 _).setAt 4 _;have ze:Below w.heap.size w7 _:=yG.below V (Nat.le_refl _);rw[De.out];exact⟨6,0,⟨#[]⟩,Q7,q7,r7,Q7',q7',r7',rfl,Ow.keep (fun q hq=>yG.cell hq.2 dc) (fun b hb=>pJ),S7.keep yG.size (fun b hb=>ze.block b V),O7.trans (sN.below ze)⟩):=h
def lX(h:P:=by repeat' (first|with_reducible exact Below.refl _ _|with_reducible assumption|with_reducible refine Below.alloc ?_ V _|with_reducible refine Below.setCell ?_ bl _)):=h
def lY(h:P:=by
 go_wp2_with fail;generalize(w.alloc _)=w3 at*;refine sG (HN.out w3 BX3 YZ hr3) fun w4 ⟨ZW,hf4⟩=> ?_
 have hsz4:=hf4.size;have Iy:¬w.heap.size=g:=V;have hne':¬g=w.heap.size:=V;have Gf:=vb.trans (hf4.below (B':=g) V (Nat.le_refl _));obtain⟨y0,y1,y2,y3,y4⟩:=hw0;have z0:=(hf4.cell (p:=rN w.heap.size 0) WG Iy).trans y0;have f0:=(hf4.frozen (p:=rN w.heap.size 0) WG Iy).trans (hf0 0);have z1:=(hf4.cell (p:=rN w.heap.size 1) WG Iy).trans y1;have f1:=(hf4.frozen (p:=rN w.heap.size 1) WG Iy).trans (hf0 1);have z2:=(hf4.cell (p:=rN w.heap.size 2) WG Iy).trans y2;have f2:=(hf4.frozen (p:=rN w.heap.size 2) WG Iy).trans (hf0 2);have z3:=(hf4.cell (p:=rN w.heap.size 3) WG Iy).trans y3;have f3:=(hf4.frozen (p:=rN w.heap.size 3) WG Iy).trans (hf0 3);have z4:=(hf4.cell (p:=rN w.heap.size 4) WG Iy).trans y4;have f4:=(hf4.frozen (p:=rN w.heap.size 4) WG Iy).trans (hf0 4);obtain⟨⟨r0,r1,r2,r3⟩,k1,k2,k3⟩:=ZW;go_wp2_with fail;rw[Exit.noGoto_ret];refine bodyPost_ret (Fq (k:=9) (n:=ry) (t:=[]) (a:=0) (b:=0) rfl rfl ⟨bi,bi,bi,bi,bi⟩) rfl ⟨rfl,⟨⟨bi,bi,bi,bi⟩,bi,bi,bi⟩,?_⟩;exact pX):=h
def lZ(h:P:=by rw[show((depth+1:Nat):Int)=(depth:Int)+1 from V]at hcl;have HCL:=Lib.hid hcl;clear hcl;go_wp2_with fail;refine HCL.out.mono ?_;rintro e' w2 ⟨k,i,t,A1,n1,c1,A2,n2,c2,rfl,hio,⟨a8,v8,h8x,h8a,h8b⟩,YR⟩;have hs2:=YR.size;have JR2:=JR1.off YR V V;have Nt:=SY.trans (YR.mono V);obtain⟨⟨u0,u1,u2,u3,u4⟩,u5⟩:=JR2;go_wp2_with fail;have Ck:sa w.heap.size w2.heap.size w2 (((((w2.setCell ⟨w.heap.size,0,none⟩ (.int .i64 k)).setCell ⟨w.heap.size,1,none⟩ (.int .i64 i)).setCell ⟨w.heap.size,2,none⟩ (.string t)).setCell ⟨w.heap.size,3,none⟩ (.slice A1 n1 c1)).setCell ⟨w.heap.size,4,none⟩ (.slice A2 n2 c2)):=(((((sa.refl _ _ _).setAt 0 _).setAt 1 _).setAt 2 _).setAt 3 _).setAt 4 _;refine bodyPost_ret (uX (k:=k) (i:=i) (t:=t) (A:=A1) (n:=n1) (c:=c1) (A':=A2) (n':=n2) (c':=c2) rfl rfl ⟨bi,bi,bi,bi,bi⟩) rfl ?_;refine⟨k,i,t,A1,n1,c1,A2,n2,c2,rfl,xz.keep hio (fun q hq=>Ck.cell hq.2 V) (fun b hb=>⟨V,by have:=Ck.size;omega⟩),⟨a8,v8,h8x.off Ck V V,h8a,h8b⟩,?_⟩;exact pH):=h
def l6(h:P:=by
 go_wp2_with fail;refine tv _ _ trivial ?_;clear tv;refine ah ?_;refine se rfl rfl 0 (Nat.le_refl _) (fun Q1 tv=> ?_);go_wp2_with fail;refine tv _ _ trivial ?_;clear tv;refine ah ?_;refine se rfl rfl 0 (Nat.le_refl _) (fun Q1 tv=> ?_);go_wp2_with fail;refine tv _ _ trivial ?_;clear tv;refine ah ?_;refine se rfl rfl 0 (Nat.le_refl _) (fun Q1 tv=> ?_);go_wp2_with fail;refine tv _ _ trivial ?_;clear tv;refine sF ?_;go_wp2_with fail;refine⟨⟨i+1,_,bA,by congr 1;omega,V,Nt,ly,?_,ze⟩,?_⟩
 ·intro k hk;have h:=HY.out;have hi2:=h i V;have hj2:=h J V;rw[if_neg V,HX.out]at hi2;rw[if_neg V,HYY.out]at hj2;rw[List.getElem?_set,List.getElem?_set,List.length_set];by_cases e1:J=k;·subst e1;rw[if_pos rfl,if_pos V,if_pos V,show n-1-J=i from V,<-hi2]
  ·rw[if_neg e1];by_cases e2:i=k;·subst e2;rw[if_pos rfl,if_pos V,if_pos V,show n-1-i=J from V,<-hj2]
   ·rw[if_neg e2,h k hk];by_cases e3:k<i\/n<=k+i;·rw[if_pos e3,if_pos V]
    ·rw[if_neg e3,if_neg V]
 ·exact bN):=h
def l7(h:P:=by exact pG):=h
def l8(h:P:=by
 clear tv;refine se rfl rfl 0 (Nat.le_refl _) (fun Q1 tv=> ?_);go_wp2_with(at_builtin;refine zb rfl rfl (Rz.alloc _) rfl (rd_val we b _ rfl) V (by simp;omega) ?_;intro A5 c5 w5 KF Cv);refine tv _ _ (Cv.mono (Nat.zero_le _)) ?_;clear tv;have hb5':=((Below.refl base we).al V (.cells #[.int .u8 (b.toNat:Int)] 5)).trans Cv;have P6:base<=w5.heap.size:=by have:=hb5'.size;omega
 obtain⟨⟨q0,q1,q2,q3⟩,p1,p2,p3⟩:=xl.below ⟨⟨r0,r1,r2,r3⟩,k1,k2,k3⟩ hb5' (Ov);have DP:=Gf.trans (sa.of hb5');clear r0 r1 r2 r3 k1 k2 k3 Cv hb5' Rz Gf;refine ah ?_;refine se rfl rfl 0 (Nat.le_refl _) (fun Q1 tv=> ?_);go_wp2_with fail;refine tv _ _ ((Below.refl _ _).setCell (Nat.zero_le _) _) ?_;clear tv;refine sF ?_;go_wp2_with fail;have SP:xl (w5.setCell ⟨g,3,none⟩ (.slice A5 (m+1) c5)) g A n c ((a+1:Nat):Int) 0 A5 (m+1) c5:=⟨⟨bi,bi,bi,bi⟩,bi,bi,bi⟩;exact gE):=h
def ma(h:P:=by
 clear HFA key;go_wp2_with fail;refine sG hf fun w5 B5=> ?_
 obtain⟨C5,O5,R5,Z5,hz5⟩:=abr.out w5 B5;clear hf abr B5 z0 z1 z2 z3 z4;have z1:=Z5.c 1 _ rfl;obtain⟨s0,s1,s2,s3,s4,s5,s6,s7,s8,s9,rf⟩:=R5.xX;have R6:=R5.set 7 (.int .i64 z.int);simp only[List.set_cons_zero,List.set_cons_succ]at R6;have O56:sa (w.heap.size+1) w5.heap.size w5 (w5.setCell ⟨w.heap.size+1,7,none⟩ (.int .i64 z.int)):=(sa.refl _ _ _).setAt 7 _;have O6:=O5.wS (p:=rN (w.heap.size+1) 7) bl (.int .i64 z.int);have S6:=a.off O6 (C5.keep O56.size (O56.block g V V));have K6:=a.yM O6;clear C5 O5 R5 Z5 O56;go_upto_region 5 with fail;generalize w5.setCell _ _=w6 at*;have hx6:=hx.kept K6;have hff:=zl {x with size:=z.int} A1 n1 c1 none 0 0 w6 g own L A n c S E2 S6 ⟨hx6.1,iC,hx6.2.1,Nat.le_refl _,hx6.2.2.1,V⟩ hx.2.2.2.1 hx.2.2.2.2.1;exact dy):=h
def mc(h:P:=by
 go_wp2_with fail;refine sG ZJ fun w3 vb=> ?_
 have Ac:=wI.sY (Nat.le_refl _) vb;exact pE):=h
def md(h:P:=by rw[uo];have yG:sa (w.heap.size+1) Wk.heap.size Wk ((((((Wk.setCell ⟨w.heap.size+1,0,none⟩ (.int .i64 6)).setCell ⟨w.heap.size+1,1,none⟩ (.int .i64 0)).setCell ⟨w.heap.size+1,2,none⟩ (.string ⟨#[]⟩)).setCell ⟨w.heap.size+1,3,none⟩ (.slice Q12 q12 r12)).setCell ⟨w.heap.size+1,4,none⟩ (.slice Tv Vn Vo))):=(((((sa.refl _ _ _).setAt 0 _).setAt 1 _).setAt 2 _).setAt 3 _).setAt 4 _;have ze:Below (w.heap.size+1) Wk _:=yG.below V (Nat.le_refl _);exact⟨6,0,⟨#[]⟩,Q12,q12,r12,Tv,Vn,Vo,rfl,Ow.keep (fun q hq=>yG.cell hq.2 dc) (fun b hb=>pJ),S12.keep yG.size (fun b hb=>ze.block b V),O12.trans (sN.below (ze.mono V))⟩):=h
def me(h:P:=by obtain⟨v0,v1,v2,v3,v4,v5,vf⟩:=V6.xw;go_wp2_with fail;refine bodyPost_ret (wR rfl rfl rfl ((((((V6.set 0 _).set 1 _).set 2 _).set 3 _).set 4 _).set 5 _)) rfl ?_;refine⟨_,_,_,_,_,_,_,_,_,_,_,_,rfl,vY (r:=w.heap.size+1) E6 ?_ V Ix⟩;exact bu):=h
def mg(h:P:=by refine bodyPost_ret (A9 (te:=.bool false) (k:=0) (i:=0) (t:=⟨#[]⟩) (A:=none) (n:=0) (c:=0) (A':=none) (n':=0) (c':=0) rfl rfl rfl ⟨bi,bi,bi,bi,bi⟩) rfl ?_;refine⟨0,0,⟨#[]⟩,none,0,0,none,0,0,rfl,uq.zero _ _,?_⟩;exact pS):=h
def mh(h:P:=by rintro e u' w'' ⟨rfl,rfl,rfl⟩;have Of:sa w.heap.size wf.heap.size wf ((wf.setCell ⟨w.heap.size,0,none⟩ (.slice none 0 0)).setCell ⟨w.heap.size,1,none⟩ (.int .i64 0)):=((sa.refl _ _ _).setAt 0 _).setAt 1 _;rw[hrr];exact⟨_,Qr rfl rfl rfl ((Sc.set 0 _).set 1 _) (Ec.off Of V V),Zl.nil w _ _ (wy Bc Of (Nat.le_refl _))⟩):=h
def mi(h:P:=by subst he;rw[if_pos ⟨rfl,bA⟩]at h;subst h;exact bI):=h
def mj(h:P:=by
 refine aH ?_;refine se rfl rfl we.heap.size V (fun Q1 tv=> ?_);go_wp2_with(with_reducible refine zy rfl rfl Jq.rd ?_);refine tv _ _ (GQ.below (Below.refl _ _) V) ?_;refine se rfl rfl we.heap.size V (fun Q1 tv=> ?_);have hp6:=YW.below x8;go_wp2_with fail;refine sG (xr b base st _ w6 hp6 (by simp;omega)) fun w7 ⟨YV,P5,Ns⟩=> ?_
 go_wp2_with fail;refine tv _ _ (GQ.Ew Ns P5) ?_;refine sF ?_;go_wp2_with fail;refine bodyPost_end (results_none rfl _ _ _) rfl ?_;exact⟨rfl,YV,(hoe.trans (sa.of (x8.mono V))).trans P5,(hfe.trans (z8.below x8)).trans Ns⟩):=h
def mn(h:P:=by
 obtain rfl:r=false:=by cases r;rfl;exact qc
 clear hi;subst h;exact bE):=h
def mo(h:P:=by have uo:=HR.out;rw[if_pos rfl]at uo;clear HR;subst uo;obtain⟨v0,v1,v2,v3,v4,v5,vf⟩:=V4.xw;go_wp2_with fail;refine bodyPost_ret (wR rfl rfl rfl ((((((V4.set 0 _).set 1 _).set 2 _).set 3 _).set 4 _).set 5 _)) rfl ?_;refine⟨_,_,_,_,_,_,_,_,_,_,_,_,rfl,vY (r:=w.heap.size+1) E4 ?_ V Ix⟩;exact bu):=h
def mq(h:P:=by rw[<-HR.out]at Uv;clear HR B4 r4 Xr HV4;refine aO ?_;refine se rfl rfl 0 (Nat.le_refl _) (fun Q1 tv=> ?_);go_wp2_with fail;refine Uv.mono ?_;rintro e' w5 ⟨tT,A',n',c',rfl,S5,K5⟩;clear Uv;go_wp2_with fail;refine tv _ _ (Kb.yM (fun b hb=>⟨V,V,fun q e=>iQ⟩) K5) ?_;exact dW):=h
def mu(h:P:=by refine aB ?_;refine se rfl rfl (w.heap.size+1) V (fun Q1 tv=> ?_);go_wp2_with fail;refine tv _ _ (vp.refl _ _ _) ?_;refine aB ?_;refine se rfl rfl (w.heap.size+1) V (fun Q1 tv=> ?_);go_wp2_with fail;refine tv _ _ (vp.refl _ _ _) ?_;refine aB ?_;refine sF ?_;exact bD):=h
def mw(h:P:=by exact pH):=h
def mx(h:P:=by obtain⟨a8,v8,h8,h9⟩:=OA;exact⟨a8,v8,h8.off zY V V,h9⟩):=h
def my(h:P:=by obtain⟨v0,v1,v2,v3,v4,v5,vf⟩:=V8.xw;go_wp2_with fail;refine bodyPost_ret (wR rfl rfl rfl ((((((V8.set 0 _).set 1 _).set 2 _).set 3 _).set 4 _).set 5 _)) rfl ?_;refine⟨_,_,_,_,_,_,_,_,_,_,_,_,rfl,vY (r:=w.heap.size+1) E8 ?_ V Ix⟩;exact bu):=h
def mz(h:P:=by obtain rfl:R= -1:=qj;have Rw:¬(j:Int)<(n:Int):=V;clear HK;exact cJ):=h
def mA(h:P:=by refine⟨⟨j+1,A3,m+2,c3,bA,V,rfl,Dy,ze,RE,Ru⟩,?_⟩;exact bN):=h
def mB(h:P:=by obtain⟨a8,v8,h8,h9⟩:=Hz;exact⟨a8,v8,h8.below x8 V,h9⟩):=h
def mC(h:P:=by obtain⟨a8,v8,h8,h9⟩:=Nu;exact⟨a8,v8,h8.below sK V,h9⟩):=h
def mD(h:P:=by cases r;rfl;exact qc):=h
def mE(h:P:=by exact pJ):=h
def mF(h:P:=by exact pS):=h
def mG(h:P:=by exact Nat.le_trans (Vb _ _ _ _ _ _ _ _) V):=h
def mH(h:P:=by
 clear hi;have e1:((a:Int)==224)=false:=by simp;omega
 have e2:((a:Int)==237)=false:=by simp;omega
 have e3:((a:Int)==240)=false:=by simp;omega
 have e4:((a:Int)==244)=false:=by simp;omega
 clear h1 h2 h3 h4;exact bE):=h
def mI(h:P:=by rcases(show k=0\/k=1\/k=2\/k=3\/k=4\/k=5\/k=6\/k=7\/k=8\/k=9\/k=10\/k=11\/k=12\/k=13\/k=14\/k=15\/k=16\/k=17\/k=18\/k=19\/k=20\/k=21\/k=22\/k=23\/k=24\/k=25\/k=26\/k=27\/k=28\/k=29\/k=30\/k=31 from V)with rfl|rfl|rfl|rfl|rfl|rfl|rfl|rfl|rfl|rfl|rfl|rfl|rfl|rfl|rfl|rfl|rfl|rfl|rfl|rfl|rfl|rfl|rfl|rfl|rfl|rfl|rfl|rfl|rfl|rfl|rfl|rfl;all_goals kernel_rfl):=h
def mJ(h:P:=by unfold pk;rw[List.getD,List.getElem?_eq_none V];rfl):=h
def mK(h:P:=by injection h with h;injection h with h1 h2;subst h2;exact⟨rfl,V⟩):=h
def mL(h:P:=by exact qc):=h
def mM(h:P:=by rw[if_neg V,if_neg V,if_neg V]):=h
def mN(h:P:=by
 go_wp2_with fail;refine tv _ _ (GQ.Ew Ns P5) ?_;refine sF ?_;go_wp2_with fail;first|refine bodyPost_end (results_none rfl _ _ _) rfl ?_|refine bodyPost_ret (results_none rfl _ _ _) rfl ?_
 exact⟨rfl,by rw[HH.out];exact YV,(hoe.trans (sa.of (Rs.mono V))).trans P5,(hfe.trans (z8.below Rs)).trans Ns⟩):=h
def mO(h:P:=by
 have hbW:=hB6.c0;obtain⟨x0,x1,x2,x3,x4⟩:=hE6.at_;go_wp2_with fail;refine sG (hN x hxs hxw _ b base _ X k1 i1 t1 A1 n1 c1 A2 n2 c2 abR hX hp6) fun w7 ⟨YV,P5,Ns⟩=> ?_
 have hoz:=abU.trans P5;have hfz:=abN.trans Ns;exact pQ):=h
def mP(h:P:=by go_enter Tryz.func245,Tryz.ntmps245;go_wp2_with fail;refine tZ (TT u V _) ?_;rw[HN.out];go_wp2_with fail;refine tZ (xr w.heap.size u digits _ bA bA h1 h0 hd) ?_;go_wp2_with fail;go_ret;rw[HMG.out];exact⟨AZ V,(Below.refl _ _).alloc (Nat.le_refl _) _⟩):=h
def mQ(h:P:=by
 have De:=Lib.hid hR;clear hR;have HR:=De;go_upto_region 2 with fail;go_wp2_with fail;refine tZ Iz ?_;go_upto_region 16 with fail;cases B3
 ·cases B4
  ·cases B5
   ·cases B6;·exact qe
    ·exact bB
   ·exact bB
  ·exact bB
 ·exact bB):=h
def mR(h:P:=by refine⟨⟨j+1,A8,c8,_,_,bA,rfl,V,hi8,hm6.keep ((Kw.block _ V).trans (((Below.refl w6.heap.size w6).al (Nat.le_refl _) _).block _ V)),HTj.out,Xz,(Jq.trans (sa.of (((Below.refl w6.heap.size w6).al (Nat.le_refl _) _).mono abZ))).trans (sa.of Kw)⟩,?_⟩;exact bN):=h
def mS(h:P:=by exact Nat.le_trans (Vc _ _ _ _ _ _ _ _ _ _) V):=h
def mT(h:P:=by go_wp2_with(at_builtin;go_must(refine zb rfl rfl (hod.alloc _) rfl (rd_val wr b8 _ (by rw[hv8])) V (by simp;omega) ?_);intro A4 c4 w4 Rz Rs);refine⟨⟨f,u/10,A4,k3+1,c4,ds++[b8],bA,rfl,Rz,WT.out,hu2,V,V,wI.trans (sK.trans Rs)⟩,?_⟩;exact bN):=h
def mU(h:P:=by go_wp2_with fail;refine⟨⟨j+1,bA,V,hS9,OT.trans (sN.Fu 3 _)⟩,?_⟩;exact bN):=h
def mV(h:P:=by exact qe):=h
def mW(h:P:=by
 rw[AI]at uo;generalize(items.any fun x=> !ue x (d+1))=KA at*;have HRR:=Lib.hid uo;have HCF:=Lib.hid hcf;clear uo hcf;go_wp2_with fail;refine sG HCF.out fun w5 Cv=> ?_
 clear HCF;have SX:=WJ.sY V Cv;go_wp2_with fail;go_ret;exact⟨by rw[HRR.out];rfl,SX⟩):=h
def mX(h:P:=by exact pQ):=h
def mY(h:P:=by clear tv;refine ah ?_;refine sF ?_;go_wp2_with fail;refine bodyPost_ret (wR rfl rfl rfl ((((((Vd.set 0 _).set 1 _).set 2 _).set 3 _).set 4 _).set 5 _)) rfl ?_;refine⟨_,_,_,_,_,_,_,_,_,_,_,_,rfl,vY (r:=w.heap.size+1) Ed ?_ V Ix⟩;exact bu):=h
def mZ(h:P:=by go_enter Tryz.func220,Tryz.ntmps220;go_wp2;go_ret2;exact bK):=h
def na(h:P:=by go_wp2_with fail;refine bodyPost_ret (wR rfl rfl rfl ((((((V6.set 0 _).set 1 _).set 2 _).set 3 _).set 4 _).set 5 _)) rfl ?_;refine⟨_,_,_,_,_,_,_,_,_,_,_,_,rfl,?_⟩;repeat' (first|with_reducible exact B6|with_reducible refine Below.setCell ?_ bl _)):=h
def nc(h:P:=by clear hi;go_enter Tryz.func246,Tryz.ntmps246;go_wp2;go_ret;exact bK):=h
def nf(h:P:=by go_wp2;go_ret;exact bK):=h
def ng(h:P:=by rw[List.getElem_append_left hlt,List.getElem_append_left V];exact hW.keep (h4 j hlt V) (fun q hq=>World.cell?_of_block (w:=w) (hold q.block hq.2.1 hq.2.2.1)) (fun b hb=>⟨hb.1,V,hA2 b hb.2.1 hb.2.2.1,hb.2.2.2⟩)):=h
def nh(h:P:=by rename_i h;have:=key _ h;simp only[List.length_cons,List.length_nil]at this|-;exact⟨V,fun _=>V⟩):=h
def ni(h:P:=by rw[decide_eq_false (show¬(20:Int)<=(d:Int)from V),decide_eq_false (show¬1000<xQ+1 from V)];rfl):=h
def nj(h:P:=by injection h with h _;subst h;exact⟨bH,bH⟩):=h
def nk(h:P:=by refine⟨_,hw,bA,bA,fun f hf=> ?_⟩;exact cY):=h
def nl(h:P:=by intro w' hb;have z0:=(hb.cell ⟨g,0,none⟩ bl (by simp)).trans WN.out.1.1;have z1:=(hb.cell ⟨g,1,none⟩ bl (by simp)).trans WN.out.1.2.1;clear hb;exact pL):=h
def np(h:P:=by go_wp2_with fail;refine⟨⟨p+1,_,_,bA,V,⟨Xt,ZI⟩,Xv,HVp.out,Xz,ZS⟩,?_⟩;exact bN):=h
def nq(h:P:=by rw[h]at e;injection e with e;injection e with _ e _;exact absurd e bH):=h
def ns(h:P:=by go_enter Tryz.func198,Tryz.ntmps198;go_wp2;refine bodyPost_end (results_none rfl _ _ _) rfl ?_;exact⟨rfl,⟨⟨bi,bi,bi,bi⟩,bi,bi,bi⟩,eM⟩):=h
def nt(h:P:=by go_enter Tryz.func240,Tryz.ntmps240;go_wp2;go_ret2;exact bK):=h
def nu(h:P:=by have hb5':=Xj.trans Cv;have P6:=hb5'.size;have hom:=SY.below hb5';go_wp2_with(at_builtin;go_must(refine vl rfl rfl hom rfl KF.rd V V ?_);intro A6 c6 w6 Jq x8 hg6);exact fy):=h
def nw(h:P:=by clear hi;subst h;exact bE):=h
def nB(h:P:=by go_wp2_with fail;go_ret;exact⟨rfl,sK.trans (vb.mono V)⟩):=h
def nD(h:P:=by intro w' hb;have y0:=(hb.cell (p:=rN w.heap.size 0) bl).trans d0;have y1:=(hb.cell (p:=rN w.heap.size 1) bl).trans d1;clear hb;exact pL):=h
def nF(h:P:=by rw[hH];exact⟨rfl,rfl,rfl,Nat.le_trans (Qk _ fun r h=>Ex h) bH⟩):=h
def nG(h:P:=by go_enter Tryz.func151,Tryz.ntmps151;go_wp2_with fail;refine hc.mono ?_;rintro e w1 ⟨rfl,rfl⟩;go_wp2_with fail;go_ret;exact⟨by simp[Ld];try(rw[List.take_of_length_le V]),rfl⟩):=h
def nH(h:P:=by have:=hr.len;exact db):=h
def nI(h:P:=by go_upto_region 1 with fail;generalize w.alloc _=w1 at*;exact bL):=h
def nJ(h:P:=by have:=hX _ hq;exact(yG.cell V V).trans (WH.cell this)):=h
def nK(h:P:=by have hd:=HDD.out;rw[hP,Bool.true_and]at hd;have HD3:=Lib.hid hd;clear hd;go_wp2_with fail;refine⟨⟨j+1,A7,c7,bA,V,rfl,hi9,HD3.out,ZM⟩,?_⟩;exact bN):=h
def nM(h:P:=by clear u0 u1 u2 u3 u4 u5 I3 z3' S3 HQ;go_wp2_with fail;refine⟨⟨jj+1,acc++[rf.1],rf.2,Ta,Bi,ei,bA,V,hq9,hm',HKR.out,J4,I4,S4,z4'⟩,?_⟩;exact bN):=h
def nN(h:P:=by have:=(List.getElem?_eq_some_iff.1 hx).1;exact cn):=h
def nO(h:P:=by go_wp2_with fail;refine⟨?_,dZ⟩;first|exact⟨14,by simp,V,AQ.out⟩|exact⟨_,_,_,_,⟨14,rfl,V,AQ.out⟩,rfl,rfl,rfl,rfl⟩):=h
def nP(h:P:=by go_wp2_with fail;refine⟨?_,dZ⟩;first|exact⟨1,by simp,V,AQ.out⟩|exact⟨_,_,_,_,⟨1,rfl,V,AQ.out⟩,rfl,rfl,rfl,rfl⟩):=h
def nQ(h:P:=by rw[if_neg V]):=h
def nT(h:P:=by intro w' hb;obtain⟨⟨z0,z1,z2,z3⟩,_,_,_⟩:=xl.below Lt.out hb V;clear hb;exact pL):=h
def nU(h:P:=by go_enter Tryz.func159,Tryz.ntmps159;go_wp2_with fail;refine hi.mono ?_;rintro e w1 ⟨rfl,rfl⟩;go_wp2_with fail;refine XD.mono ?_;exact dk):=h
def nV(h:P:=by
 rw[<-hR]at FO;clear hR;go_wp2_with fail;refine sG FO fun w3 vb=> ?_
 go_wp2_with fail;go_ret;exact⟨rfl,Ot.sY V vb⟩):=h
def nX(h:P:=by obtain⟨g,p,hA,hg,hc⟩:=hr.pos V;have h1:j<uQ.length:=cn;have h2:j<items.length:=V;exact dl):=h
def nY(h:P:=by go_wp2_with fail;go_ret;exact⟨rfl,Ac.trans (vb.mono V)⟩):=h
def nZ(h:P:=by subst e;exact⟨A,n,cap,ks,h1,h2,h3,h4,fun a ha=>by obtain⟨i,YT,rfl⟩:=List.getElem_of_mem ha;exact(hi i V YT).2⟩):=h
def oa(h:P:=by rw[hu];exact⟨(BK _).2 V,V,rfl,rfl⟩):=h
def ob(h:P:=by intro X hX;rw[hX,wrap_u64,show((2:Int)^digits)=((2^digits:Nat):Int)from bA,<-Int.natCast_mul];omega):=h
def od(h:P:=by rw[HV.out];rfl):=h
def oe(h:P:=by subst hg;exact⟨⟨bi,bi,bi,bi,bi⟩,fun j=>bi⟩):=h
def og(h:P:=by
 go_wp2_with fail;refine sG HIH.out fun w2 Gu=> ?_
 go_wp2_with fail;go_ret;exact⟨rfl,sK.sY V Gu⟩):=h
def oh(h:P:=by repeat' (first|with_reducible exact abI.mono V|with_reducible refine Below.setCell ?_ bl _)):=h
def ol(h:P:=by go_enter Tryz.func65,Tryz.ntmps65;exact bI):=h
def om(h:P:=by
 unfold uk at this;rw[if_neg V,if_pos Rx]at this;cases this with
 |cons h1 h2=>cases h2;exact h1):=h
def oo(h:P:=by
 have b0:=BS.c 0 _ rfl;have b1:=BS.c 1 _ rfl;go_wp2_with fail;refine sG hC fun w2 Gu=> ?_
 clear hC;exact dG):=h
def oq(h:P:=by simp only[List.length_cons,List.length_nil];omega):=h
def ou(h:P:=by first|rfl|trivial):=h
def ow(h:P:=by exact⟨Int.le_refl _,bl,fun h=>dM⟩):=h
def ox(h:P:=by intro e;subst e;first|(exact absurd h1 bH)|(exact absurd h2 bH)):=h
def oy(h:P:=by have:=h.len;exact db):=h
def oA(h:P:=by exact⟨a2,v,HP.out.off Ck V V,fX,(fun e' h=>iZ)⟩):=h
def oB(h:P:=by unfold uk at this;rw[if_neg V,if_neg V,if_pos IA]at this;exact this):=h
def oC(h:P:=by exact .mk bH bA bH bH (fun _=>rfl) bA):=h
def oD(h:P:=by have:=yG.size;have:=HS3.out;exact eH):=h
def oE(h:P:=by exact Gt V):=h
def oF(h:P:=by go_wp2_with fail;refine⟨⟨j+1,bA,V,HGe.out,abJ⟩,?_⟩;exact bN):=h
def oG(h:P:=by refine⟨⟨j+1,A3,m+1,c3,bA,V,rfl,Dy,ze,RE,Ru⟩,?_⟩;exact bN):=h
def oH(h:P:=by exact⟨fun e h=>by injection h with h;subst h;simp[Dz,D1],fun wc h=>dM⟩):=h
def oI(h:P:=by intro i hij;rw[List.getElem?_set,if_neg V];exact h.rest i V):=h
def oJ(h:P:=by go_wp2_with fail;go_ret;exact⟨bA,WH.trans (abJ.mono V)⟩):=h
def oK(h:P:=by rw[if_neg hj]at e;have:=h.Fs j b e;have:=hg.1;exact⟨V,V⟩):=h
def oL(h:P:=by have h:=(Row.xg f1 f2 V).len;rw[f3]at h;exact h.symm.trans hfl):=h
def oM(h:P:=by rw[List.getElem?_eq_none V,List.getElem?_eq_none (by simp;omega)]):=h
def oN(h:P:=by subst EK;exact hy.wpOp hi (hS1 _ _ hv hS hRw) ⟨⟨gq,hRw⟩,H⟩):=h
def oO(h:P:=by go_wp2_with fail;go_ret;exact⟨bA,sK.sY (Nat.le_refl _) Gu⟩):=h
def oP(h:P:=by exact⟨rfl,Below.refl _ _⟩):=h
def oQ(h:P:=by rcases hb with h|h;exact .inl h;exact .inr V):=h
def oR(h:P:=by subst e1;exact h1.keep (fun _ _=>rfl) (fun b hb=>⟨eG,hb.2⟩)):=h
def oS(h:P:=by go_simp):=h
def oT(h:P:=by exact⟨ee,ee,ee,ee,ee⟩):=h
def oU(h:P:=by go_enter_d Tryz.func24,Tryz.ntmps24;go_wp2_with fail;go_end0;exact bK):=h
def oV(h:P:=by have:=vr ho hb;exact⟨V,this.2⟩):=h
def oW(h:P:=by unfold BH AF opt;cases tK x.aliases<;>cases x.has<;>rfl):=h
def oX(h:P:=by exact Nat.le_trans (Ve _ _ _ _ _ _ _ _ _ _ _ _) V):=h
def oY(h:P:=by go_wp2_with fail;go_ret;exact⟨tT,A',n',c',rfl,S4,K2.trans K4⟩):=h
def oZ(h:P:=by exact⟨V,List.forall_mem_cons.2 ⟨V,h2⟩⟩):=h
def o6(h:P:=by intro e;rw[e]at hpk;exact absurd hpk bH):=h
def o7(h:P:=by rw[hm,if_neg bA,hd,if_pos rfl];exact jp):=h
def o8(h:P:=by unfold By at h;exact fg):=h
def pc(h:P:=by exact((if_neg V).trans (h.out _ V)).symm):=h
def pd(h:P:=by rw[List.getElem_append_right V];simp):=h
def pe(h:P:=by rw[wa,if_neg fk,wa,if_pos (by left;omega)]):=h
def pg(h:P:=by go_wp2_with fail;rw[HU.out];go_ret3;exact⟨bA,rfl⟩):=h
def ph(h:P:=by subst EK;exact hy.wpOp hi (hS1 _ _ hv hS) ⟨gq,H⟩):=h
def pi(h:P:=by have:=hX b hb;exact dt):=h
def pj(h:P:=by unfold EM;rw[BG _ _ _ hlen];exact ie):=h
def pl(h:P:=by
 rw[PZ]at DQ;rw[if_neg bA,if_neg bA]at DQ;have HCH:=Lib.hid PZ;clear PZ;refine DQ.mono ?_;rintro e' w6 ⟨A6,m6,c6,rfl,Jq,x8⟩;have hx6:=Lt.out.below x8 (Ov);have Y0:base<=w6.heap.size:=ej;have Hw:=DP.trans (sa.of x8);clear r0 r1 r2 r3 k1 k2 k3 KF DP x8 P6 IQ Lt DQ;go_wp2_with fail;refine sG (uO g A A' n c m d (a2:Int) 0 20 w6 hx6 V) fun w7 ⟨KJ,Ns⟩=> ?_
 rw[if_pos rfl]at KJ;have P5:=Jq.off Ns (Ov);have zM:=Hw.trans (Ns.mono V);clear hx6 Jq Hw Ns;obtain⟨⟨r0,r1,r2,r3⟩,k1,k2,k3⟩:=KJ;go_wp2_with fail;refine bodyPost_end (results_none rfl _ _ _) rfl ?_;refine⟨rfl,A6,m6,c6,?_,?_,zM.setAt _ _⟩;·rw[HEE.out,HCH.out,if_neg bA];exact lP
 ·rw[HYY.out,HCH.out,if_neg bA];exact jG):=h
def pm(h:P:=by
 clear hR;refine aX ?_;obtain⟨s0,s1,s2,s3,s4,s5,rf⟩:=Rd.xw;refine se rfl rfl 0 (Nat.le_refl _) (fun Q1 tv=> ?_);go_wp2_with fail;refine tv _ _ (fun b hb=> ?_) ?_;·exact lN
 refine aO ?_;refine sF ?_;go_wp2_with fail;refine bodyPost_ret (wR rfl rfl rfl ((((((Rd.set 0 _).set 1 _).set 2 _).set 3 _).set 4 _).set 5 _)) rfl ?_;refine⟨_,_,_,_,_,_,_,_,_,_,_,_,lr,?_⟩;exact l7):=h
def pn(h:P:=by clear hsu;go_wp2_with fail;refine sT [0,1,2,3,4,5,6,7,8,9,10,11,12,13,14,15,16,17,18] [16,17] bm bm bA bm bt (fun wd hd tj=> ?_);have Lt:=Lib.hid (xl.below ZW hd V);have KF:=Rz.below (hd.mono (Nat.le_refl _));have DP:=Gf.trans (sa.of (hd.mono V));have P6:base<=wd.heap.size:=V;clear hd tj ZW Rz Gf hs4 hr4;refine ag ?_;refine sQ ?_;obtain⟨⟨r0,r1,r2,r3⟩,k1,k2,k3⟩:=Lt.out;have IQ:base<=wd.heap.size:=P6;have DQ:=GD A' m d base N1 ts V V wd KF IQ hm;exact lL):=h
def po(h:P:=by
 rw[PZ]at DQ;rw[if_pos rfl,if_pos rfl]at DQ;have HCH:=Lib.hid PZ;clear PZ;refine DQ.mono ?_;rintro e' w6 ⟨A6,m6,c6,rfl,Jq,x8⟩;have hx6:=Lt.out.below x8 (Ov);have Y0:base<=w6.heap.size:=ej;have Hw:=DP.trans (sa.of x8);clear r0 r1 r2 r3 k1 k2 k3 KF DP x8 P6 IQ Lt DQ;obtain⟨⟨r0,r1,r2,r3⟩,k1,k2,k3⟩:=hx6;go_wp2_with fail;refine bodyPost_end (results_none rfl _ _ _) rfl ?_;refine⟨rfl,A6,m6,c6,?_,?_,Hw.setAt _ _⟩;·rw[HEE.out,HCH.out,if_pos rfl];exact qm
 ·exact eo):=h
def pq(h:P:=by
 rw[if_pos h32]at uo;injection uo with uo;subst uo;have abL:((depth:Int)==32)=true:=beq_iff_eq.2 V;go_enter Tryz.func51,Tryz.ntmps51;go_upto_region 1 with fail;have sK:=(Below.refl w.heap.size w).al (Nat.le_refl _) (jZ);have GM:=HX.out.below sK hg;have JR1:=vW.new w 0 0 ⟨#[]⟩ none 0 0 none 0 0 w.heap.size rfl;have hr1:=hr.sV sK V;have hs1:=sK.l1;have SY:sa g w.heap.size w (w.alloc (jZ)):=sa.of sK;generalize w.alloc _=w1 at*;go_wp2_with fail;refine sG (vX g A n c wd.next 0 21 wd w1 GM) fun w2 ⟨h2,YR⟩=> ?_
 exact lQ):=h
def pt(h:P:=by
 have XA:∀b,(b=o\/b=w.heap.size)->b<z3.heap.size:=fun b hb=>by have:=Ox b hb;omega
 have ZT:∀b,b=B1->b<z3.heap.size:=fun b hb=>by have:=Oz b hb;omega
 have wm3:w.heap.size<z3.heap.size:=V;refine aJ ?_;refine zt rfl rfl 0 (Nat.le_refl _) (fun Q1 tv=> ?_);have xi:=x3.keep (w':=z3) (Y:=fun b=>(S b\/H<=b)/\b<z3.heap.size/\A.map (·.block)≠some b/\¬Bk.map (·.block)=some b) (fun _ _=>rfl) (fun b hb=>⟨(Rr b hb).1,by have:=hX0 b hb;omega,(Rr b hb).2.2.1,nk3 b hb⟩);exact lH):=h
def pu(h:P:=by
 have O5:∀x0 x1 x2 x3 x4 x5,sa (w.heap.size+1) wd.heap.size wd ((((((wd.setCell ⟨w.heap.size+1,0,none⟩ x0).setCell ⟨w.heap.size+1,1,none⟩ x1).setCell ⟨w.heap.size+1,2,none⟩ x2).setCell ⟨w.heap.size+1,3,none⟩ x3).setCell ⟨w.heap.size+1,4,none⟩ x4).setCell ⟨w.heap.size+1,5,none⟩ x5):=fun x0 x1 x2 x3 x4 x5=>bu
 exact(O5 _ _ _ _ _ _).block b V V):=h
def pw(h:P:=by
 have O5:∀x0 x1 x2 x3 x4 x5,sa (w.heap.size+2) wd.heap.size wd ((((((wd.setCell ⟨w.heap.size+2,0,none⟩ x0).setCell ⟨w.heap.size+2,1,none⟩ x1).setCell ⟨w.heap.size+2,2,none⟩ x2).setCell ⟨w.heap.size+2,3,none⟩ x3).setCell ⟨w.heap.size+2,4,none⟩ x4).setCell ⟨w.heap.size+2,5,none⟩ x5):=fun x0 x1 x2 x3 x4 x5=>bu
 exact(O5 _ _ _ _ _ _).block b V V):=h
def px(h:P:=by exact qm):=h
def pB(h:P:=by have R4:=R1.AA (z4.block w.heap.size V V V);have N4:=N1.AA (z4.block w1.heap.size V V V);have O4:=O1.trans (z4.mono V);have hz4:=z4.size;clear z4 HF R1 N1 O1 S1 I1 hv;go_wp2_with fail;refine tZ (hsx _) ?_;exact lI):=h
def pC(h:P:=by have R4:=R1.AA (z4.block w.heap.size V V V);have N4:=N1.AA (z4.block w1.heap.size V V V);have O4:=O1.trans (z4.mono V);have hz4:=z4.size;clear z4 HF R1 N1 O1 S1 I1 hv;exact lI):=h
def pD(h:P:=by exact⟨6,0,⟨#[]⟩,Q9,q9,r9,Q9',q9',r9',rfl,Ow.keep (fun q hq=>yG.cell hq.2 dc) (fun b hb=>mE),S9.keep yG.size (fun b hb=>ze.block b V),O9.trans (sN.below (ze.mono V))⟩):=h
def pE(h:P:=by
 clear ZJ;cases hpx:p x;·have hk:=HD.out;rw[Jr hpx]at hk;have HK:=Lib.hid hk;clear hk HD hpx;go_wp2_with fail;refine⟨⟨j+1,bA,V,HK.out,Ac⟩,?_⟩;exact bN
 ·exact co):=h
def pF(h:P:=by
 have hzd:=hd.size;clear hd tj;obtain⟨v0,v1,v2,v3,v4,v5,vf⟩:=Vd.xw;refine aZ ?_;refine NT rfl (fun Q1 tv=> ?_);go_wp2_with fail;refine tv _ _ (fun b hb=> ?_) ?_;·exact lN
 exact mY):=h
def pG(h:P:=by repeat' (first|with_reducible exact Bv|with_reducible refine Below.setCell ?_ bl _)):=h
def pH(h:P:=by repeat' (first|with_reducible exact Nt|with_reducible refine sa.wS ?_ bl _)):=h
def pI(h:P:=by rw[show((a+1:Nat):Int)=(a:Int)+1 from V];exact lP):=h
def pJ(h:P:=by rcases hb.1 with h|h;exact .inl h;exact .inr ⟨V,dK⟩):=h
def pK(h:P:=by go_upto_region 11 with fail;generalize w3.setCell _ _=w2 at*;have J2:=J3.off O2 V V;have R2:=R3.off O2 V V;exact lM):=h
def pL(h:P:=by go_simp;first|done|with_reducible rfl):=h
def pM(h:P:=by obtain rfl:r=true:=hi.2 V;exact nw):=h
def pN(h:P:=by have HD:=Lib.hid (YQ▸HK.out);clear YQ HK Fg hr hP;exact mc):=h
def pO(h:P:=by go_enter Tryz.func247,Tryz.ntmps247;exact nf):=h
def pP(h:P:=by go_enter Tryz.func248,Tryz.ntmps248;exact nf):=h
def pQ(h:P:=by go_wp2_with fail;refine⟨⟨j+1,_,bA,V,YV,WT.out,hoz,hfz⟩,?_⟩;exact bN):=h
def pS(h:P:=by repeat' (first|with_reducible exact sK|with_reducible refine Below.setCell ?_ bl _)):=h
def pT(h:P:=by unfold uk;exact mM):=h
def pU(h:P:=by
 cases B6
 ·cases B7;·exact mV
  ·exact bB
 ·exact bB):=h
def pV(h:P:=by
 obtain rfl:b=false:=by cases b;rfl;exact mL
 exact nc):=h
def pX(h:P:=by repeat' (first|with_reducible assumption|with_reducible refine Below.setCell ?_ bl _)):=h
def pY(h:P:=by have:16^j<=16^3:=Nat.pow_le_pow_right V V;omega):=h
def pZ(h:P:=by go_enter Tryz.func68,Tryz.ntmps68;exact nf):=h
def qc(h:P:=by exact absurd (hi.1 rfl) V):=h
def qd(h:P:=by clear HF hv S2;go_wp2_with fail;refine tZ (XC _) ?_;clear XC;exact mU):=h
def qe(h:P:=by
 cases B8;·obtain rfl:R=true:=dA;exact bD
 ·exact bB):=h
def qg(h:P:=by rw[show((b+1:Nat):Int)=(b:Int)+1 from V];exact lP):=h
def qh(h:P:=by exact absurd (show(0:UInt8)=117 by rw[<-hu];exact mJ) bH):=h
def qi(h:P:=by unfold sr at hN;simp at hN;unfold uk;exact mM):=h
def qj(h:P:=by rw[HK.out,List.drop_eq_nil_of_le da];rfl):=h
def ql(h:P:=by
 go_wp2_with fail;refine sG hS fun w3 vb=> ?_
 clear hS;exact nY):=h
def qm(h:P:=by exact⟨⟨bi,bi,bi,bi⟩,bi,bi,bi⟩):=h
