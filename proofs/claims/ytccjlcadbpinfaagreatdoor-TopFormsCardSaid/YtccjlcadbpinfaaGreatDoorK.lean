import Derived.Test.YtccjlcadbpinfaaGreatDoorRows
import Derived.WalkKit
import Derived.ProofKit
import Derived.OpenShut
import Derived.Outline
import Derived.WalkLawsBesides
import Derived.Lib.Hide
import Derived.Deep.LoopGhost
import Derived.Laws.BytesArg
import Derived.Maps.AppendAt
import Derived.Deep.AppendLies
import Derived.Laws.AppendOwnNone
import Derived.Deep.Draws
import Derived.Laws.BitsAllLaws
import Derived.Deep.Cut
import Derived.Deep.DeepMust
set_option linter.all false
namespace Go.Proofs.YtccjlcadbpinfaaGreatDoor
open ChangeShapes WideShapes ChangeAt RowKit
abbrev rq:=@Lib.hid
abbrev rr:=@beq_eq_false_iff_ne
abbrev ru:=@if_neg
abbrev rv:=@if_pos
abbrev ry:=@List.getElem?_eq_getElem
abbrev rz:=@List.set_cons_zero
abbrev rA:=@List.set_cons_succ
abbrev rB:=@List.setIfInBounds_toArray
abbrev rC:=@List.length_append
abbrev rD:=@World.cell?_of_block
abbrev rF:=@decide_eq_false
abbrev rG:=@Bool.and_eq_true
abbrev rH:=@List.drop_eq_getElem_cons
abbrev rI:=@List.eq_nil_of_length_eq_zero
abbrev rK:=@List.getElem?_eq_some_iff
abbrev rL:=@List.mem_of_getElem?
abbrev rM:=@List.length_cons
abbrev rN:=@Nat.le_refl
abbrev rO:=@Nat.zero_le
abbrev rP:=@decide_eq_true
abbrev rQ:=@decide_eq_true_eq
abbrev rU:=@Bool.true_and
abbrev rV:=@bodyPost_ret
abbrev rW:=@Int.toNat_natCast
abbrev rX:=@List.append_assoc
abbrev rY:=@List.getElem_mem
abbrev sa:=@List.cons_append
abbrev sb:=@Option.some.injEq
abbrev sc:=@List.length_nil
abbrev sd:=@List.nil_append
abbrev sg:=@List.mem_cons
abbrev si:=@Nat.add_zero
abbrev sj:=@Nat.lt_of_lt_of_le
abbrev sl:=@List.mem_append
abbrev so:=@List.drop_eq_nil_of_le
abbrev sw:=@List.append_nil
abbrev sx:=@List.length_drop
abbrev sA:=@World.frozen?_of_block
abbrev sD:=@List.length_map
abbrev sG:=@Nat.le_trans
abbrev sH:=@List.mem_singleton
abbrev sR:=@List.mem_map
abbrev sT:=@List.length_set
abbrev sX:=@Nat.lt_or_ge
abbrev sY:=@Nat.zero_add
abbrev sZ:=@Tryz.underlying22
abbrev ta:=@List.getElem?_eq_none
abbrev tc:=@UInt8.toNat_ofNat'
abbrev th:=@List.drop_of_length_le
abbrev tj:=@BigFrame.wpList_want
abbrev tl:=@Bool.not_true
abbrev tn:=@List.set_set
abbrev tv:=@Nat.mul_one
abbrev tx:=@Bool.false_and
abbrev tz:=@List.getElem?_map
abbrev tA:=@results_none
abbrev tB:=@beq_iff_eq
abbrev tC:=@UInt8.toNat_inj
abbrev tD:=@Int.eq_ofNat_of_zero_le
abbrev tJ:=@List.flatten_cons
abbrev tK:=@Result.andThen_ok
abbrev tL:=@Tryz.underlying25
abbrev tM:=@Tryz.underlying58
abbrev tO:=@List.getElem_append_right
abbrev tP:=@List.mem_cons_self
abbrev tQ:=@Nat.lt_of_le_of_lt
abbrev tU:=@Bool.false_or
abbrev tY:=@bodyPost_end
abbrev uh:=@Array.getElem?_eq_some_iff
abbrev uj:=@Option.map_some
abbrev uu:=@World.ownsRow_nil
abbrev uw:=@if_true
abbrev uz:=@List.mem_cons_of_mem
abbrev uA:=@List.not_mem_nil
abbrev uB:=@wpOp_mono
abbrev uH:=@List.map_cons
abbrev uL:=@Sem.run_bind
abbrev uM:=@Tryz.underlying77
abbrev uR:=@run_append_own_at
abbrev vd:=@List.sizeOf_lt_of_mem
abbrev vl:=@List.getElem_append_left
abbrev vm:=@Sem.run_pure
abbrev vy:=@congrArg
abbrev vP:=@Option.map_eq_some_iff
abbrev vY:=@List.all_eq_true
abbrev vZ:=@Nat.lt_succ_self
abbrev wN:=@Bool.or_eq_true
abbrev wO:=@List.map_append
abbrev wV:=@Bool.not_eq_true'
abbrev wW:=@Bool.true_or
abbrev wX:=@Nat.zero_mul
abbrev w0:=@UInt8.ofNat_toNat
abbrev xj:=@info_parts
abbrev xu:=@List.length_reverse
abbrev xw:=@Bool.not_false
abbrev xx:=@List.length_take
abbrev xy:=@World.block_lt_of_cell?
abbrev xK:=@decide_true
abbrev xM:=@rounds_succ
abbrev xO:=@Addr.add_lit
abbrev xP:=@List.getElem?_take
abbrev xQ:=@List.take_of_length_le
abbrev ye:=@Lib.run_eql_slice_nil
abbrev yf:=@List.contains_iff_mem
abbrev yg:=@List.length_replicate
abbrev yi:=@List.length_singleton
abbrev yj:=@World.frozen?_setCell
abbrev yG:=@List.getElem?_set
abbrev yH:=@List.take_add_one
abbrev yM:=@List.drop_zero
abbrev yN:=@List.getElem?_append_right
abbrev yO:=@List.getElem?_of_mem
abbrev yP:=@Region.noSelect_spec
abbrev yW:=@if_false
abbrev ze:=@List.drop_length
abbrev zf:=@List.ext_getElem
abbrev zg:=@Tryz.ntmps51
abbrev zh:=@Tryz.underlying9
abbrev zj:=@decide_eq_decide
abbrev zu:=@List.pairwise_iff_getElem
abbrev zv:=@World.cell?_setCell_other
abbrev zx:=@List.drop_succ_cons
abbrev zy:=@List.getElem_of_mem
abbrev zJ:=@Bool.and_true
abbrev zK:=@Bool.or_false
abbrev zL:=@Nat.add_assoc
abbrev zR:=@Bool.eq_iff_iff
abbrev z6:=@List.getElem?_drop
abbrev Aa:=@World.ownsRow_made
abbrev Ao:=@Int.le_refl
abbrev Ap:=@Tryz.func51
abbrev Aq:=@decide_eq_false_iff_not
abbrev AN:=@List.drop_drop
abbrev AO:=@List.flatMap_cons
abbrev AP:=@Nat.succ_mul
abbrev AX:=@run_underlying
abbrev Bv:=@Bool.and_eq_false_iff
abbrev By:=@Bool.not_eq_true
abbrev BB:=@Region.free_spec
abbrev BC:=@Tryz.underlying5
abbrev Cb:=@List.sum_cons
abbrev Cc:=@Ne.symm
abbrev Cp:=@or_false
abbrev Cu:=@Exit.noGoto_ret
abbrev Dq:=@Option.isSome_none
abbrev Dr:=@Option.isSome_some
abbrev DG:=@Classical.byContradiction
abbrev DJ:=@List.getElem?_append_left
abbrev Ep:=@of_decide_eq_true
abbrev Et:=@List.all_cons
abbrev Eu:=@Nat.lt_irrefl
abbrev Ex:=@Tryz.ntmps153
abbrev Ey:=@Tryz.ntmps182
abbrev Ez:=@Tryz.ntmps241
abbrev Fv:=@List.getElem_map
abbrev Fw:=@List.getElem_set
abbrev Gc:=@Bool.or_true
abbrev Gi:=@List.map_map
abbrev Gj:=@Nat.add_comm
abbrev Gk:=@Nat.le_of_lt
abbrev Gl:=@Nat.sub_self
abbrev Gp:=@Tryz.func129
abbrev Gq:=@Tryz.func153
abbrev Gr:=@Tryz.func182
abbrev Gs:=@Tryz.func241
abbrev Hr:=@ready_mono
abbrev Ib:=@List.take_append_drop
abbrev Jk:=@Array.replicate_succ
abbrev Jl:=@Array.replicate_zero
abbrev Jn:=@DataW.trod_int
abbrev Jo:=@List.drop_eq_nil_iff
abbrev Jp:=@List.mem_iff_getElem
abbrev JJ:=@heap_alloc_new
abbrev JK:=@heap_alloc_old
abbrev Kx:=@wp_loop_rounds
abbrev KT:=@List.append_toArray
abbrev KU:=@List.flatten_append
abbrev KV:=@List.map_congr_left
abbrev KW:=@List.takeWhile_cons
abbrev MH:=@Tryz.ntmps262
abbrev MK:=@Bool.false_eq_true
abbrev M0:=@Tryz.underlying136
abbrev NV:=@not_or
abbrev PK:=@List.push_toArray
abbrev PL:=@List.reverse_cons
abbrev PM:=@List.size_toArray
abbrev PO:=@Nat.pow_succ
abbrev PW:=@Tryz.func262
abbrev PX:=@Tryz.underlying24
abbrev PY:=@Tryz.underlying30
abbrev PZ:=@Tryz.underlying76
abbrev P1:=@Value.slice.injEq
abbrev Sa:=@List.take_length
abbrev Sf:=@Nat.div_eq_of_lt
abbrev UZ:=@List.map_id
abbrev U0:=@Tryz.func46
abbrev U1:=@cell_of_row
abbrev U7:=@leaves_cons
abbrev acM:=List UInt8
abbrev acN:=Option Addr
abbrev acO:=Nat->Prop
abbrev acP(w:World)(v:World):Prop:=Below w.heap.size w v
theorem acQ(w:World):Below w.heap.size w w:=Below.refl _ w
variable{P Q:Prop}
open Go.RowKit in theorem rT{n:Nat}:n<=n:=Nat.le_refl n
open Go.RowKit in theorem vK{B:Nat}{w:World}:Below B w w:=Below.refl B w
def ae(k:Q)(h:Hid Q->P:=by intro zz;(repeat((first|(refine sJ rfl rfl rfl bh ?_)|(refine sN rfl rfl rfl ?_)|(refine sM rfl rfl rfl (g+1) V _ (by intro w' hb;obtain⟨⟨z0,z1,z2,z3⟩,_,_,_⟩:=wP.below FK.out hb V;clear hb;go_simp;first|done|with_reducible rfl) ?_));simp only[Act.put,List.setIfInBounds_toArray,List.set_cons_zero,List.set_cons_succ]));exact zz.out):=h k
def ag(k:Q)(h:Hid Q->P:=by intro zz;(repeat((first|(refine sJ rfl rfl rfl bh ?_));simp only[Act.put,List.setIfInBounds_toArray,List.set_cons_zero,List.set_cons_succ]));exact zz.out):=h k
def ah(k:Q)(h:Hid Q->P:=by intro zz;(repeat((first|(refine sJ rfl rfl rfl bh ?_)|(refine sN rfl rfl rfl ?_)|(refine Lm rfl rfl rfl ?_)|(refine sM rfl rfl rfl (g+1) V _ mV ?_));simp only[Act.put,List.setIfInBounds_toArray,List.set_cons_zero,List.set_cons_succ]));exact zz.out):=h k
def ai(k:Q)(h:Hid Q->P:=by intro zz;(repeat((first|(refine ua rfl rfl rfl bh ?_)|(refine uq rfl rfl rfl ?_));simp only[Act.put,List.setIfInBounds_toArray,List.set_cons_zero,List.set_cons_succ]));exact zz.out):=h k
def aj(k:Q)(h:Hid Q->P:=by intro zz;(repeat((first|(refine sJ rfl rfl rfl bh ?_)|(refine sN rfl rfl rfl ?_));simp only[Act.put,List.setIfInBounds_toArray,List.set_cons_zero,List.set_cons_succ]));exact zz.out):=h k
def am(k:Q)(h:Hid Q->P:=by intro zz;(repeat((first|(refine ua rfl rfl rfl bh ?_)|(refine uq rfl rfl rfl ?_)|(refine uk rfl rfl rfl (we.heap.size) V _ (by intro w' hb;have y0:=(hb.cell ⟨l,0,none⟩ bd cC).trans e0';clear hb;go_simp;first|done|with_reducible rfl) ?_));simp only[Act.put,List.setIfInBounds_toArray,List.set_cons_zero,List.set_cons_succ]));exact zz.out):=h k
def ao(k:Q)(h:Hid Q->P:=by intro zz;(repeat((first|(refine sJ rfl rfl rfl bh ?_)|(refine sN rfl rfl rfl ?_)|(refine sM rfl rfl rfl (g+1) V _ (by intro w' hb;have y0:=(hb.cell (p:=⟨g,1,none⟩) bd).trans r1;clear hb;go_simp;first|done|with_reducible rfl) ?_));simp only[Act.put,List.setIfInBounds_toArray,List.set_cons_zero,List.set_cons_succ]));exact zz.out):=h k
def ap(k:Q)(h:Hid Q->P:=by intro zz;(repeat((first|(refine ua rfl rfl rfl bh ?_)|(refine uq rfl rfl rfl ?_)|(refine uk rfl rfl rfl (we.heap.size) V _ bB ?_));simp only[Act.put,List.setIfInBounds_toArray,List.set_cons_zero,List.set_cons_succ]));exact zz.out):=h k
def aq(k:Q)(h:Hid Q->P:=by intro zz;(repeat((first|(refine ua rfl rfl rfl bh ?_)|(refine uq rfl rfl rfl ?_)|(refine uk rfl rfl rfl (f+1) V _ (by intro w' hb;have y0:=(hb.cell ⟨f,0,none⟩ bd cC).trans f0;have y1:=(hb.cell ⟨f,1,none⟩ bd cC).trans f1;have y2:=(hb.cell ⟨f,2,none⟩ bd cC).trans f2;have y3:=(hb.cell ⟨f,3,none⟩ bd cC).trans f3;have y4:=(hb.cell ⟨f,4,none⟩ bd cC).trans f4;clear hb;go_simp;first|done|with_reducible rfl) ?_));simp only[Act.put,List.setIfInBounds_toArray,List.set_cons_zero,List.set_cons_succ]));exact zz.out):=h k
def au(k:Q)(h:Hid Q->P:=by intro zz;(repeat((first|(refine ua rfl rfl rfl bh ?_)|(refine uq rfl rfl rfl ?_)|(refine uk rfl rfl rfl (f+1) V _ bB ?_));simp only[Act.put,List.setIfInBounds_toArray,List.set_cons_zero,List.set_cons_succ]));exact zz.out):=h k
def av(k:Q)(h:Hid Q->P:=by intro zz;(repeat((first|(refine wG rfl rfl rfl rfl bh ?_)|(refine wI rfl rfl rfl rfl ?_)|(refine wH rfl rfl rfl rfl (w.heap.size+1) V _ bB ?_));simp only[Act.put,List.setIfInBounds_toArray,List.set_cons_zero,List.set_cons_succ]));exact zz.out):=h k
def aw(k:Q)(h:Hid Q->P:=by intro zz;(repeat((first|(refine sJ rfl rfl rfl bh ?_)|(refine sN rfl rfl rfl ?_)|(refine sM rfl rfl rfl (w.heap.size+1) V _ (by intro w' hb;have y0:=(hb.cell (p:=⟨w.heap.size,3,none⟩) bd).trans b3;have y1:=(hb.cell (p:=⟨w.heap.size,4,none⟩) bd).trans b4;clear hb;go_simp;first|done|with_reducible rfl) ?_));simp only[Act.put,List.setIfInBounds_toArray,List.set_cons_zero,List.set_cons_succ]));exact zz.out):=h k
def ax(k:Q)(h:Hid Q->P:=by intro zz;(repeat((first|(refine sJ rfl rfl rfl bh ?_)|(refine sN rfl rfl rfl ?_)|(refine sM rfl rfl rfl (w.heap.size+1) V _ (by intro w' hb;have y0:=(hb.cell (p:=⟨w.heap.size,3,none⟩) bd).trans d3;have y1:=(hb.cell (p:=⟨w.heap.size,4,none⟩) bd).trans d4;clear hb;go_simp;first|done|with_reducible rfl) ?_));simp only[Act.put,List.setIfInBounds_toArray,List.set_cons_zero,List.set_cons_succ]));exact zz.out):=h k
def ay(k:Q)(h:Hid Q->P:=by intro zz;(repeat((first|(refine sJ rfl rfl rfl bh ?_)|(refine sN rfl rfl rfl ?_)|(refine sM rfl rfl rfl (w.heap.size+1) V _ bB ?_));simp only[Act.put,List.setIfInBounds_toArray,List.set_cons_zero,List.set_cons_succ]));exact zz.out):=h k
def az(k:Q)(h:Hid Q->P:=by intro zz;(repeat((first|(refine sJ rfl rfl rfl bh ?_)|(refine sN rfl rfl rfl ?_)|(refine sM rfl rfl rfl (w.heap.size+1) V _ (by intro w' hb;have y0:=(hb.cell (p:=⟨w.heap.size,1,none⟩) bd).trans b1;have y1:=(hb.cell (p:=⟨w.heap.size,2,none⟩) bd).trans b2;have y2:=(hb.cell (p:=⟨w.heap.size,3,none⟩) bd).trans b3;have y3:=(hb.cell (p:=⟨w.heap.size,4,none⟩) bd).trans b4;have y4:=(hb.cell (p:=⟨w.heap.size,5,none⟩) bd).trans b5;have y5:=(hb.cell (p:=⟨w.heap.size,6,none⟩) bd).trans b6;have y6:=(hb.cell (p:=⟨w.heap.size,7,none⟩) bd).trans b7;have y7:=(hb.cell (p:=⟨w.heap.size,8,none⟩) bd).trans b8;have y8:=(hb.cell (p:=⟨w.heap.size,9,none⟩) bd).trans b9;clear hb;go_simp;first|done|with_reducible rfl) ?_));simp only[Act.put,List.setIfInBounds_toArray,List.set_cons_zero,List.set_cons_succ]));exact zz.out):=h k
def aA(k:Q)(h:Hid Q->P:=by intro zz;(repeat((first|(refine sJ rfl rfl rfl bh ?_)|(refine sN rfl rfl rfl ?_)|(refine sM rfl rfl rfl (w.heap.size) V _ (by intro w' hb;have y0:=(hb.cell (p:=⟨b6,0,none⟩) bd).trans d6;have y1:=(hb.cell (p:=⟨b7,0,none⟩) bd).trans d7;have y2:=(hb.cell (p:=⟨b2,0,none⟩) bd).trans d2;have y3:=(hb.cell (p:=⟨q,p+j*10,none⟩) bd).trans e0;clear hb;go_simp;first|done|with_reducible rfl) ?_));simp only[Act.put,List.setIfInBounds_toArray,List.set_cons_zero,List.set_cons_succ]));exact zz.out):=h k
def aB(k:Q)(h:Hid Q->P:=by intro zz;(repeat((first|(refine sJ rfl rfl rfl bh ?_)|(refine sN rfl rfl rfl ?_)|(refine sM rfl rfl rfl (w.heap.size+2) V _ (by intro w' hb;have y0:=(hb.cell (p:=⟨w.heap.size+1,4,none⟩) bd).trans b4;have y1:=(hb.cell (p:=⟨w.heap.size+1,5,none⟩) bd).trans b5;have y2:=(hb.cell (p:=⟨w.heap.size+1,6,none⟩) bd).trans b6;clear hb;go_simp;first|done|with_reducible rfl) ?_));simp only[Act.put,List.setIfInBounds_toArray,List.set_cons_zero,List.set_cons_succ]));exact zz.out):=h k
def aC(k:Q)(h:Hid Q->P:=by intro zz;(repeat((first|(refine ua rfl rfl rfl bh ?_)|(refine uq rfl rfl rfl ?_)|(refine uk rfl rfl rfl (w.heap.size+1) V _ (by intro w' hb;have y0:=(hb.cell ⟨w.heap.size,0,none⟩ bd cC).trans d0;have y1:=(hb.cell ⟨w.heap.size,1,none⟩ bd cC).trans d1;clear hb;go_simp;first|done|with_reducible rfl) ?_));simp only[Act.put,List.setIfInBounds_toArray,List.set_cons_zero,List.set_cons_succ]));exact zz.out):=h k
def aD(k:Q)(h:Hid Q->P:=by intro zz;(repeat((first|(refine ua rfl rfl rfl bh ?_)|(refine uq rfl rfl rfl ?_)|(refine uk rfl rfl rfl (w.heap.size+1) V _ (by intro w' hb;have y0:=(hb.cell ⟨w.heap.size,0,none⟩ bd cC).trans e0;have y1:=(hb.cell ⟨w.heap.size,1,none⟩ bd cC).trans e1;clear hb;go_simp;first|done|with_reducible rfl) ?_));simp only[Act.put,List.setIfInBounds_toArray,List.set_cons_zero,List.set_cons_succ]));exact zz.out):=h k
def aE(k:Q)(h:Hid Q->P:=by intro zz;(repeat((first|(refine sJ rfl rfl rfl bh ?_)|(refine sN rfl rfl rfl ?_)|(refine sM rfl rfl rfl (w.heap.size+1) V _ mH ?_));simp only[Act.put,List.setIfInBounds_toArray,List.set_cons_zero,List.set_cons_succ]));exact zz.out):=h k
def aF(k:Q)(h:Hid Q->P:=by intro zz;(repeat((first|(refine ua rfl rfl rfl bh ?_)|(refine uq rfl rfl rfl ?_)|(refine uk rfl rfl rfl (w1.heap.size) V _ bB ?_));simp only[Act.put,List.setIfInBounds_toArray,List.set_cons_zero,List.set_cons_succ]));exact zz.out):=h k
def aG(k:Q)(h:Hid Q->P:=by intro zz;(repeat((first|(refine wG rfl rfl rfl rfl bh ?_)|(refine wI rfl rfl rfl rfl ?_)|(refine wH rfl rfl rfl rfl (wo.heap.size) V _ bB ?_));simp only[Act.put,List.setIfInBounds_toArray,List.set_cons_zero,List.set_cons_succ]));exact zz.out):=h k
def aH(k:Q)(h:Hid Q->P:=by intro zz;(repeat((first|(refine wG rfl rfl rfl rfl bh ?_)|(refine wI rfl rfl rfl rfl ?_)|(refine wH rfl rfl rfl rfl (wq.heap.size) V _ bB ?_));simp only[Act.put,List.setIfInBounds_toArray,List.set_cons_zero,List.set_cons_succ]));exact zz.out):=h k
def aI(k:Q)(h:Hid Q->P:=by intro zz;(repeat((first|(refine ua rfl rfl rfl bh ?_)|(refine uq rfl rfl rfl ?_)|(refine uk rfl rfl rfl we.heap.size V _ (by intro w' hb;have y0:=(YN.ZO hb YN.lt V).c0;have y1:=(YO.ZO hb YO.lt V).at_.2.2.2.2;have y2:=(hb.off.cell (p:=⟨g,q+j,none⟩) bd bd).trans hce;clear hb;go_simp;first|done|with_reducible rfl) ?_));simp only[Act.put,List.setIfInBounds_toArray,List.set_cons_zero,List.set_cons_succ]));exact zz.out):=h k
def aJ(k:Q)(h:Hid Q->P:=by intro zz;(repeat((first|(refine ua rfl rfl rfl bh ?_)|(refine uq rfl rfl rfl ?_)|(refine uk rfl rfl rfl we.heap.size V _ (by intro w' hb;have y0:=(YN.ZO hb YN.lt V).c0;have y1:=(YO.ZO hb YO.lt V).at_;obtain⟨z0,z1,z2,z3,z4⟩:=y1;clear hb;go_simp;first|done|with_reducible rfl) ?_));simp only[Act.put,List.setIfInBounds_toArray,List.set_cons_zero,List.set_cons_succ]));exact zz.out):=h k
def aK(k:Q)(h:Hid Q->P:=by intro zz;(repeat((first|(refine FN rfl rfl rfl rfl rfl bh ?_)|(refine FP rfl rfl rfl rfl rfl ?_)|(refine FO rfl rfl rfl rfl 0 (Nat.le_refl _) _ bB ?_)|(refine BD rfl rfl rfl rfl rfl _ bB ?_));simp only[Act.put,List.setIfInBounds_toArray,List.set_cons_zero,List.set_cons_succ]));exact zz.out):=h k
def aL(k:Q)(h:Hid Q->P:=by intro zz;(repeat((first|(refine wG rfl rfl rfl rfl bh ?_)|(refine wI rfl rfl rfl rfl ?_)|(refine wH rfl rfl rfl rfl 0 (Nat.le_refl _) _ bB ?_));simp only[Act.put,List.setIfInBounds_toArray,List.set_cons_zero,List.set_cons_succ]));exact zz.out):=h k
def aM(k:Q)(h:Hid Q->P:=by intro zz;(repeat((first|(refine sJ rfl rfl rfl bh ?_)|(refine sN rfl rfl rfl ?_)|(refine sM rfl rfl rfl (w.heap.size) V _ (by intro w' hb;have y0:=(hb.cell (p:=⟨b1,0,none⟩) bd).trans d1;have y1:=(hb.cell (p:=⟨b2,0,none⟩) bd).trans d2;have y2:=(hb.cell (p:=⟨b3,0,none⟩) bd).trans d3;have y3:=(hb.cell (p:=⟨g,0,none⟩) bd).trans d4;have y4:=(hb.cell (p:=⟨q,p+j*10,none⟩) bd).trans e0;clear hb;go_simp;first|done|with_reducible rfl) ?_));simp only[Act.put,List.setIfInBounds_toArray,List.set_cons_zero,List.set_cons_succ]));exact zz.out):=h k
def aN(k:Q)(h:Hid Q->P:=by intro zz;(repeat((first|(refine sJ rfl rfl rfl bh ?_)|(refine sN rfl rfl rfl ?_)|(refine sM rfl rfl rfl (0) V _ bB ?_));simp only[Act.put,List.setIfInBounds_toArray,List.set_cons_zero,List.set_cons_succ]));exact zz.out):=h k
def aO(k:Q)(h:Hid Q->P:=by intro zz;(repeat((first|(refine wG rfl rfl rfl rfl bh ?_)|(refine wI rfl rfl rfl rfl ?_)|(refine wH rfl rfl rfl rfl 0 (Nat.le_refl _) _ (by intro w' hb;have y0:=(Kb.cell hb (q:=⟨g,0,none⟩) (by simp)).trans d0;have y1:=(Kb.cell hb (q:=⟨g,1,none⟩) (by simp)).trans d1;have y2:=(Kb.cell hb (q:=⟨w5.heap.size,0,none⟩) (by simp)).trans f0;clear hb;go_simp;first|done|with_reducible rfl) ?_));simp only[Act.put,List.setIfInBounds_toArray,List.set_cons_zero,List.set_cons_succ]));exact zz.out):=h k
def aP(k:Q)(h:Hid Q->P:=by intro zz;(repeat((first|(refine wG rfl rfl rfl rfl bh ?_)|(refine wI rfl rfl rfl rfl ?_)|(refine wH rfl rfl rfl rfl 0 (Nat.le_refl _) _ (by intro w' hb;have y0:=(Kb.cell hb (q:=⟨w.heap.size,0,none⟩) (by simp)).trans b0;have y1:=(Kb.cell hb (q:=⟨w.heap.size,1,none⟩) (by simp)).trans b1;have y2:=(Kb.cell hb (q:=⟨w.heap.size,2,none⟩) (by simp)).trans b2;have y3:=(Kb.cell hb (q:=⟨w.heap.size,3,none⟩) (by simp)).trans b3;have y4:=(Kb.cell hb (q:=⟨w.heap.size,4,none⟩) (by simp)).trans b4;have y5:=(Kb.cell hb (q:=⟨w5.heap.size,0,none⟩) (by simp)).trans f0;clear hb;go_simp;first|done|with_reducible rfl) ?_));simp only[Act.put,List.setIfInBounds_toArray,List.set_cons_zero,List.set_cons_succ]));exact zz.out):=h k
def aQ(k:Q)(h:Hid Q->P:=by intro zz;(repeat((first|(refine ua rfl rfl rfl bh ?_)|(refine uq rfl rfl rfl ?_)|(refine uk rfl rfl rfl 0 (Nat.le_refl _) _ bB ?_));simp only[Act.put,List.setIfInBounds_toArray,List.set_cons_zero,List.set_cons_succ]));exact zz.out):=h k
def aR(k:Q)(h:Hid Q->P:=by intro zz;(repeat((first|(refine ua rfl rfl rfl bh ?_)|(refine uq rfl rfl rfl ?_)|(refine uk rfl rfl rfl 0 (Nat.le_refl _) _ (by intro w' hb;have y0:=(Kb.cell hb (q:=⟨w.heap.size,0,none⟩) (by simp)).trans b0;have y1:=(Kb.cell hb (q:=⟨w.heap.size,1,none⟩) (by simp)).trans b1;have y2:=(Kb.cell hb (q:=⟨w.heap.size,2,none⟩) (by simp)).trans b2;have y3:=(Kb.cell hb (q:=⟨w.heap.size,3,none⟩) (by simp)).trans b3;have y4:=(Kb.cell hb (q:=⟨w.heap.size,4,none⟩) (by simp)).trans b4;clear hb;go_simp;first|done|with_reducible rfl) ?_));simp only[Act.put,List.setIfInBounds_toArray,List.set_cons_zero,List.set_cons_succ]));exact zz.out):=h k
def aS(k:Q)(h:Hid Q->P:=by intro zz;(repeat((first|(refine ua rfl rfl rfl bh ?_)|(refine uq rfl rfl rfl ?_)|(refine uk rfl rfl rfl 0 (Nat.le_refl _) _ (by intro w' hb;have y0:=(Kb.cell hb (q:=⟨w.heap.size,0,none⟩) (by simp)).trans b0;have y1:=(Kb.cell hb (q:=⟨w.heap.size,1,none⟩) (by simp)).trans b1;have y2:=(Kb.cell hb (q:=⟨w.heap.size+2,0,none⟩) (by simp)).trans v0;have y3:=(Kb.cell hb (q:=⟨w.heap.size+2,1,none⟩) (by simp)).trans v1;have y4:=(Kb.cell hb (q:=⟨w.heap.size+2,2,none⟩) (by simp)).trans v2;have y5:=(Kb.cell hb (q:=⟨w.heap.size+2,3,none⟩) (by simp)).trans v3;have y6:=(Kb.cell hb (q:=⟨w.heap.size+2,4,none⟩) (by simp)).trans v4;have y7:=(Kb.cell hb (q:=⟨w.heap.size+2,5,none⟩) (by simp)).trans v5;clear hb;go_simp;first|done|with_reducible rfl) ?_));simp only[Act.put,List.setIfInBounds_toArray,List.set_cons_zero,List.set_cons_succ]));exact zz.out):=h k
def aT(k:Q)(h:Hid Q->P:=by intro zz;(repeat((first|(refine ua rfl rfl rfl bh ?_)|(refine uq rfl rfl rfl ?_)|(refine uk rfl rfl rfl 0 (Nat.le_refl _) _ (by intro w' hb;have y0:=(Kb.cell hb (q:=⟨w.heap.size,0,none⟩) (by simp)).trans m0;have y1:=(Kb.cell hb (q:=⟨w.heap.size,7,none⟩) (by simp)).trans m7;have y2:=(Kb.cell hb (q:=⟨w.heap.size+3,0,none⟩) (by simp)).trans v0;have y3:=(Kb.cell hb (q:=⟨w.heap.size+3,1,none⟩) (by simp)).trans v1;have y4:=(Kb.cell hb (q:=⟨w.heap.size+3,2,none⟩) (by simp)).trans v2;have y5:=(Kb.cell hb (q:=⟨w.heap.size+3,3,none⟩) (by simp)).trans v3;have y6:=(Kb.cell hb (q:=⟨w.heap.size+3,4,none⟩) (by simp)).trans v4;have y7:=(Kb.cell hb (q:=⟨w.heap.size+3,5,none⟩) (by simp)).trans v5;clear hb;go_simp;first|done|with_reducible rfl) ?_));simp only[Act.put,List.setIfInBounds_toArray,List.set_cons_zero,List.set_cons_succ]));exact zz.out):=h k
def aV(k:Q)(h:Hid Q->P:=by intro zz;(repeat((first|(refine FN rfl rfl rfl rfl rfl bh ?_)|(refine FP rfl rfl rfl rfl rfl ?_)|(refine FO rfl rfl rfl rfl 0 (Nat.le_refl _) _ (by intro w' hb;have y0:=(Kb.cell hb (q:=⟨w.heap.size+1,0,none⟩) (by simp)).trans v0;have y1:=(Kb.cell hb (q:=⟨w.heap.size+1,1,none⟩) (by simp)).trans v1;have y2:=(Kb.cell hb (q:=⟨w.heap.size+1,2,none⟩) (by simp)).trans v2;have y3:=(Kb.cell hb (q:=⟨w.heap.size+1,3,none⟩) (by simp)).trans v3;have y4:=(Kb.cell hb (q:=⟨w.heap.size+1,4,none⟩) (by simp)).trans v4;have y5:=(Kb.cell hb (q:=⟨w.heap.size+1,5,none⟩) (by simp)).trans v5;clear hb;go_simp;first|done|with_reducible rfl) ?_)|(refine BD rfl rfl rfl rfl rfl _ (by intro w' hb;have y0:=(Kb.cell hb (q:=⟨w.heap.size,0,none⟩) (by simp)).trans b0;clear hb;go_simp;first|done|with_reducible rfl) ?_));simp only[Act.put,List.setIfInBounds_toArray,List.set_cons_zero,List.set_cons_succ]));exact zz.out):=h k
def aW(k:Q)(h:Hid Q->P:=by intro zz;(repeat((first|(refine ua rfl rfl rfl bh ?_)|(refine uq rfl rfl rfl ?_)|(refine uk rfl rfl rfl 0 (Nat.le_refl _) _ (by intro w' hb;have y0:=(hb ⟨w.heap.size,0,none⟩ (by simp)).trans y0;have y1:=(hb ⟨w.heap.size,1,none⟩ (by simp)).trans y1;have y2:=(hb ⟨w.heap.size+1,0,none⟩ (by simp)).trans y3;clear hb;go_simp;first|done|with_reducible rfl) ?_));simp only[Act.put,List.setIfInBounds_toArray,List.set_cons_zero,List.set_cons_succ]));exact zz.out):=h k
def aX(k:Q)(h:Hid Q->P:=by intro zz;(repeat((first|(refine sJ rfl rfl rfl bh ?_)|(refine sN rfl rfl rfl ?_)|(refine sM rfl rfl rfl (w1.heap.size) V _ bB ?_));simp only[Act.put,List.setIfInBounds_toArray,List.set_cons_zero,List.set_cons_succ]));exact zz.out):=h k
def aY(k:Q)(h:Hid Q->P:=by intro zz;(repeat((first|(refine sJ rfl rfl rfl bh ?_)|(refine sN rfl rfl rfl ?_)|(refine sM rfl rfl rfl (wb.heap.size) V _ bB ?_));simp only[Act.put,List.setIfInBounds_toArray,List.set_cons_zero,List.set_cons_succ]));exact zz.out):=h k
def aZ(k:Q)(h:Hid Q->P:=by intro zz;(repeat((first|(refine sJ rfl rfl rfl bh ?_)|(refine sN rfl rfl rfl ?_)|(refine sM rfl rfl rfl (wd.heap.size) V _ bB ?_));simp only[Act.put,List.setIfInBounds_toArray,List.set_cons_zero,List.set_cons_succ]));exact zz.out):=h k
def ba(k:Q)(h:Hid Q->P:=by intro zz;(repeat((first|(refine sJ rfl rfl rfl bh ?_)|(refine sN rfl rfl rfl ?_)|(refine sM rfl rfl rfl (wx.heap.size) V _ (by intro w' hb;have y0:=(hb.cell (p:=⟨w.heap.size,0,none⟩) bd).trans y0;have y1:=(hb.cell (p:=⟨w.heap.size,1,none⟩) bd).trans y1;have y2:=(hb.cell (p:=⟨w.heap.size+1,1,none⟩) bd).trans y2;have y3:=(hb.cell (p:=⟨w.heap.size+1,4,none⟩) bd).trans y3;have y4:=(hb.cell (p:=⟨w1.heap.size,9,none⟩) bd).trans y4;clear hb;go_simp;first|done|with_reducible rfl) ?_));simp only[Act.put,List.setIfInBounds_toArray,List.set_cons_zero,List.set_cons_succ]));exact zz.out):=h k
def V(h:P:=by omega):=h
def bd(h:P:=by simp only;omega):=h
def bf(h:P:=by exact n7):=h
def bg(h:P:=by kernel_rfl):=h
def bh(h:P:=by intro w';exact oZ):=h
def bi(h:P:=by simp):=h
def bl(h:P:=by have:=hX b hb;omega):=h
def bm(h:P:=by repeat' (first|with_reducible exact rS.refl _ _ _|with_reducible refine rS.setAt ?_ _ _)):=h
def bo(h:P:=by
 obtain rfl:R=false:=by rw[HR.out];simp
 clear HR;exact nH):=h
def bq(h:P:=by clear HR;exact nH):=h
def bt(h:P:=by exact nH):=h
def bu(h:P:=by go_enter Tryz.func221,Tryz.ntmps221;go_wp2;go_ret;exact⟨by first|rfl|(simp[Ending.returned.injEq];omega),rfl⟩):=h
def bw(h:P:=by cases d<;>exact h):=h
def bA(h:P:=by simp only[List.length_append,List.length_cons,List.length_nil,l1,l2,l3,l4,l5]at*;omega):=h
def bB(h:P:=by intro w' hb;clear hb;exact oZ):=h
def bC(h:P:=by decide+kernel):=h
def bD(h:P:=by decide):=h
def bE(h:P:=by go_wp2_with fail;go_ret;exact⟨rfl,rfl⟩):=h
def bF(h:P:=by
 rintro e' w3 ⟨rfl,XS,Eo,hf3⟩;go_wp2_with fail;first|refine bodyPost_end (results_none rfl _ _ _) rfl ?_|refine bodyPost_ret (results_none rfl _ _ _) rfl ?_
 exact⟨rfl,by rw[HH.out];exact XS,Qx.trans Eo,Zt.trans hf3⟩):=h
def bG(h:P:=by have:=hX _ hq;omega):=h
def bH(h:P:=by exact⟨rfl,rfl⟩):=h
def bI(h:P:=by unfold uZ at h;simp only[Bool.and_eq_true,decide_eq_true_eq]at h;obtain⟨_,hb,_,hko⟩:=h;obtain⟨k,n,al,fs,sy,hs,df,sz,it,br⟩:=x;simp only at hk;subst hk;refine⟨by simpa[kindOk]using hko,?_⟩;unfold Ce xX sf at hb;simp at hb;simp_all [Cn]):=h
def bJ(h:P:=by clear vL;go_wp2_with fail;go_ret;exact⟨rfl,Tb⟩):=h
def bK(h:P:=by simp[intOf];omega):=h
def bL(h:P:=by go_wp2_with fail;go_ret;exact⟨rfl,tm⟩):=h
def bM(h:P:=by simp[IntKind.wrap,IntKind.bits,IntKind.signed];omega):=h
def bN(h:P:=by rw[e5];exact⟨⟨n7,n7,n7,n7⟩,n7,n7,n7⟩):=h
def bP(h:P:=by rw[HR.out];simp):=h
def bQ(h:P:=by
 refine(Below.refl _ _).grown h3 Dm fun k hk=> ?_
 cases A with
 |none=>simp[Value.ownBlock]at hk
 |some ad=>simp only[Value.ownBlock,Option.some.injEq]at hk;have:=(D2.block ad rfl).1;omega):=h
def bR(h:P:=by go_wp2_with fail;go_ret;exact⟨rfl,AZ⟩):=h
def bS(h:P:=by clear L0 vL;refine ba ?_;refine sB rfl rfl wx.heap.size (Nat.le_refl _) (fun Q1 sP=> ?_);go_wp2_with fail;refine sP _ _ (Below.refl _ _) ?_;clear sP;refine aN ?_;refine sn ?_;go_wp2_with fail;go_ret;exact nf _ (Below.refl _ _)):=h
def bT(h:P:=by have hc:=uo g h base _ n c root s7.2 s7.1 [125] w3 F3 ns;go_wp2_with fail;refine hc.mono ?_;rintro e' w4 ⟨rfl,F4,hT,hO⟩;clear hc b0 b1 b2 b3 b4 b5 b6 b7 b8 b9 bz;have T4:=T3.trans hT;have O4:=O3.trans hO;have N4:=N3.tf hT CD CE;obtain⟨⟨b0,b1,b2,b3,b4,b5,b6,b7,b8,b9⟩,bz⟩:=N4.1;clear hT hO F3 T3 O3 N3;go_wp2_with fail;refine bodyPost_end (results_none rfl _ _ _) rfl ?_;rw[HR3.out];exact⟨rfl,F4,T4,O4⟩):=h
def bU(h:P:=by rw[c4]at D0;have Xj:=Lib.hid c4;clear c4;go_wp2_with fail;refine D0.mono ?_;rintro e' w9 ⟨rfl,rfl⟩;go_wp2_with fail;refine(uy g _ A' n c m d (zz:Int) 0 20 w7 JS RG).mono ?_;rintro e' w8 ⟨rfl,G2,NC⟩;have Nz:=NC.mono zl.size;rw[if_pos rfl]at G2;clear r0 r1 r2 r3 k1 k2 k3;go_wp2_with fail;go_ret;exact⟨mU,by rw[RV.out,HE.out];rw[if_neg RU.out,if_neg YI.out,if_pos Xj.out];exact G2,zl.trans Nz⟩):=h
def bV(h:P:=by go_wp2_with fail;refine D0.mono ?_;rintro e' w9 ⟨rfl,rfl⟩;go_wp2_with fail;refine(uy g _ A' n c m d (zz:Int) 0 22 w7 JS RG).mono ?_;rintro e' w8 ⟨rfl,G2,NC⟩;have Nz:=NC.mono zl.size;rw[if_pos rfl]at G2;clear r0 r1 r2 r3 k1 k2 k3;go_wp2_with fail;go_ret;exact⟨mU,by rw[RV.out,HE.out];rw[if_neg RU.out,if_neg YI.out,if_neg Xj.out,if_pos (.inl ng)];exact G2,zl.trans Nz⟩):=h
def bW(h:P:=by go_wp2_with fail;go_ret;exact⟨rfl,vu⟩):=h
def bX(h:P:=by cases h):=h
def bY(h:P:=by repeat' (first|with_reducible exact uK.refl _ _ _|with_reducible refine uK.set ?_ rfl)):=h
def bZ(h:P:=by go_wp2_with fail;refine h.mono ?_;rintro e' w2 ⟨rfl,hb⟩;clear h;go_wp2_with fail;go_ret;exact⟨rfl,hb⟩):=h
def ca(h:P:=by rw[UInt8.toNat_ofNat'];omega):=h
def cd(h:P:=by simp only[List.length_append,List.length_cons,List.length_nil,l1,l2]at*;omega):=h
def ce(h:P:=by
 have e3:(y.toNat:Int)=48:=by rw[q2.2];rfl
 have RU:=Lib.hid q2;clear q2 q1 Xd;go_wp2_with fail;refine(uy g _ A' n c m d (zz:Int) 0 20 w7 JS RG).mono ?_;rintro e' w8 ⟨rfl,G2,NC⟩;have Nz:=NC.mono zl.size;rw[if_pos rfl]at G2;clear r0 r1 r2 r3 k1 k2 k3;go_wp2_with fail;go_ret;exact⟨mU,by rw[RV.out,HE.out];rw[if_pos (.inr RU.out)];exact G2,zl.trans Nz⟩):=h
def cg(h:P:=by clear q1;have HQ:=Lib.hid hq;have HQ1:=Lib.hid Xd;clear hq Xd IS W3 U5;go_wp2_with fail;refine(uy g _ A' n c m d (zz:Int) 0 20 w7 JS RG).mono ?_;rintro e' w8 ⟨rfl,G2,NC⟩;have Nz:=NC.mono zl.size;rw[if_pos rfl]at G2;clear r0 r1 r2 r3 k1 k2 k3;go_wp2_with fail;go_ret;exact⟨mU,by rw[RV.out,HE.out];rw[if_pos (.inl HQ1.out)];exact G2,zl.trans Nz⟩):=h
def ck(h:P:=by unfold Oper.wp execOp;simp only[resolve,invoke,builtin,Sem.run_bind,Sem.run_pure,Result.andThen_ok,List.map_toArray,List.map_cons,List.map_nil,hs,hx,Il];exact hK _ _ (hh A2 c2 w' h2 h3 h4 h5)):=h
def cm(h:P:=by
 intro YU j hv hj Em q hq;by_cases hjq:j=q
 ·subst hjq;exfalso;have Cl:j∈l:=by rcases List.mem_cons.1 hq with h|h;exact absurd h Em;exact h
  obtain⟨p,hp,o,ho,e,he,hb,rfl⟩:=GL l i OU j Cl;obtain⟨_,o',ho',Vy⟩:=mem_ready.1 hj;rw[ho]at ho';injection ho' with ho';subst ho';exact Nx (Vy e he hb) (hv _ hp)
 ·rw[getD_set_ne true hjq];exact hv q hq):=h
def cn(h:P:=by first|assumption|decide):=h
def co(h:P:=by have:=Vz _ he;exact oa):=h
def cq(h:P:=by go_wp2_with fail;refine hc.mono ?_;rintro e' w3 ⟨rfl,F3,hT,hO⟩;clear hc b0 b1 b2 b3 b4 b5 b6 b7 b8 b9 bz;have T3:=T2.trans hT;have O3:=O2.trans hO;have N3:=N2.tf hT CD CE;obtain⟨⟨b0,b1,b2,b3,b4,b5,b6,b7,b8,b9⟩,bz⟩:=N3.1;clear hT hO F2 T2 O2 N2;go_wp2_with fail;refine bodyPost_end (results_none rfl _ _ _) rfl ?_;rw[Ca.out,<-HQ.out];exact⟨rfl,F3,T3,O3⟩):=h
def cu(h:P:=by unfold Oper.wp execOp;simp only[resolve,invoke,builtin,Sem.run_bind,Sem.run_pure,Result.andThen_ok,List.map_toArray,List.map_cons,List.map_nil,hs,hx,Il];exact hK _ _ (h A2 c2 w' h2 h3 h4)):=h
def cv(h:P:=by
 rcases Nat.eq_zero_or_pos n with h|h;·exact h
 ·obtain⟨g,p,h,_⟩:=hr.pos h;cases h):=h
def cw(h:P:=by subst c2;go_wp2_with fail;refine(uy g _ A' n c m d (zz:Int) 0 22 w7 JS RG).mono ?_;rintro e' w8 ⟨rfl,G2,NC⟩;have Nz:=NC.mono zl.size;rw[if_pos rfl]at G2;clear r0 r1 r2 r3 k1 k2 k3;go_wp2_with fail;go_ret;exact⟨mU,by rw[RV.out,HE.out];rw[if_neg RU.out,if_pos (.inr (.inl ng))];exact G2,zl.trans Nz⟩):=h
def cA(h:P:=by subst c3;go_wp2_with fail;refine(uy g _ A' n c m d (zz:Int) 0 22 w7 JS RG).mono ?_;rintro e' w8 ⟨rfl,G2,NC⟩;have Nz:=NC.mono zl.size;rw[if_pos rfl]at G2;clear r0 r1 r2 r3 k1 k2 k3;go_wp2_with fail;go_ret;exact⟨mU,by rw[RV.out,HE.out];rw[if_neg RU.out,if_pos (.inr (.inr ng))];exact G2,zl.trans Nz⟩):=h
def cB(h:P:=by
 have h:=Cv.out;have h2:decide (1000<xh+1)=false:=by cases hh:decide (1000<xh+1)with|false=>rfl|true=>rw[hh,Bool.or_true]at h;cases h
 have:=of_decide_eq_false h2;omega):=h
def cC(h:P:=by first|(simp;done)|(simp;omega)):=h
def cD(h:P:=by subst c1;go_wp2_with fail;refine(uy g _ A' n c m d (zz:Int) 0 22 w7 JS RG).mono ?_;rintro e' w8 ⟨rfl,G2,NC⟩;have Nz:=NC.mono zl.size;rw[if_pos rfl]at G2;clear r0 r1 r2 r3 k1 k2 k3;go_wp2_with fail;go_ret;exact⟨mU,by rw[RV.out,HE.out];rw[if_neg RU.out,if_pos (.inl ng)];exact G2,zl.trans Nz⟩):=h
def cE(h:P:=by unfold uZ at Bl;simp only[Bool.and_eq_true,decide_eq_true_eq]at Bl;unfold sf at hN;simp at hN;omega):=h
def cF(h:P:=by go_wp2_with fail;refine hc.mono ?_;rintro e' w2 ⟨rfl,F2,hT,hO⟩;clear hc b0 b1 b2 b3 b4 b5 b6 b7 b8 b9 bz;have T2:=T1.trans hT;have O2:=O1.trans hO;have N2:=N1.tf hT CD CE;obtain⟨⟨b0,b1,b2,b3,b4,b5,b6,b7,b8,b9⟩,bz⟩:=N2.1;clear hT hO F1 T1 O1 N1;go_wp2_with fail;refine bodyPost_end (results_none rfl _ _ _) rfl ?_;exact⟨rfl,F2,T2,O2⟩):=h
def cG(h:P:=by
 rcases g2.2 with⟨_,hn0⟩|⟨g',cap',cur,rfl,_⟩;·omega
 ·exact⟨_,_,rfl⟩):=h
def cH(h:P:=by
 rcases h2.2 with⟨rfl,hn0⟩|⟨g',cap,cur,rfl,_⟩;·exact⟨none,0,by rw[hn0]⟩
 ·exact⟨_,_,rfl⟩):=h
def cI(h:P:=by go_wp2_with fail;go_ret;exact⟨none,0,rfl,World.ownsRow_nil _ _ _ _,Below.refl _ _⟩):=h
def cJ(h:P:=by obtain⟨f,rfl⟩:∃f',f=f'+1:=⟨f-1,by simp only[Pw]at hf;omega⟩;rw[vB];simp):=h
def cK(h:P:=by rw[HL.out];omega):=h
def cL(h:P:=by go_wp2_with fail;refine yr.mono ?_;rintro e' w4 ⟨C4,c4,rfl,D1,DV,MI⟩;clear yr;exact nM):=h
def cM(h:P:=by have:=hr.len;omega):=h
def cN(h:P:=by simpa[uF]using this):=h
def cO(h:P:=by go_enter Tryz.func159,Tryz.ntmps159;go_wp2_with fail;refine hi.mono ?_;rintro e w1 ⟨rfl,rfl⟩;clear hi;go_wp2_with fail;refine QB.mono ?_;rintro e w1 ⟨rfl,rfl⟩;clear QB;exact na):=h
def cP(h:P:=by have FB:=Zr.trans ((rS.of hd (g:=g)).mono U6);clear sW;refine ae ?_;refine sn ?_;go_wp2;have h:=HQ.out;subst h;go_ret;exact⟨rfl,FK.out,FB⟩):=h
def cQ(h:P:=by rcases hq.1 with h|h;(have:=hX _ h;omega);omega):=h
def cR(h:P:=by rw[Bh _ _ _ hlen];rfl):=h
def cT(h:P:=by subst hr;intro i v hv;obtain⟨h1,h2⟩:=List.getElem?_eq_some_iff.1 hv;rw[List.getElem_replicate]at h2;rw[List.length_replicate]at h1;subst h2;refine⟨?_,by rw[World.frozen?_alloc_at _ _ _ _ rfl]⟩;rw[World.cell?_alloc_at _ _ _ _ rfl];simp[madeCells,h1,Nat.mod_one]):=h
def cU(h:P:=by go_wp2_with fail;go_ret;exact nW):=h
def cV(h:P:=by intro j u hu;simp only[cells,List.getElem?_map,Option.map_eq_some_iff]at hu;obtain⟨x,hx,rfl⟩:=hu;rw[Addr.add_lit];exact hc j x hx):=h
def cW(h:P:=by exact nM):=h
def cX(h:P:=by rw[List.getElem?_eq_getElem DZ]at hx;injection hx):=h
def cY(h:P:=by have:=KG.size;omega):=h
def cZ(h:P:=by rw[HL.out];exact Ar):=h
def da(h:P:=by
 go_wp2;all_goals go_ret
 all_goals refine⟨?_,rfl⟩;generalize c.toNat=n at*;simp;first|done|omega|(rw[Bool.eq_iff_iff];simp;omega)):=h
def db(h:P:=by obtain⟨r0,r1,r2,r3,r4,r5,r6,r7,r8,r9, -⟩:=R6.yk;clear z1 rf;go_wp2_with fail;refine Calls.mono (show Calls _ _ _ _ _ from hff) ?_;rintro e' w7 ⟨tI,A',n',c',rfl,S7,K7⟩;clear hff;go_wp2_with fail;go_ret;exact⟨tI,A',n',c',rfl,S7,K6.trans K7⟩):=h
def dc(h:P:=by rcases j with _|_|_|_|_|j<;>simp[jv]at hu<;>subst hu<;>first|exact Xy|exact Xz|exact XA|exact XB|exact XC):=h
def de(h:P:=by simp only[maxLen];omega):=h
def dg(h:P:=by have:=yq.size;omega):=h
def dh(h:P:=by rw[HR.out];rfl):=h
def dl(h:P:=by rw[List.getElem?_set,if_pos rfl,if_pos ZC]):=h
def dm(h:P:=by have:=vX.size;omega):=h
def dn(h:P:=by go_wp2_with fail;refine bodyPost_end (results_none rfl _ _ _) rfl ?_;exact⟨rfl,⟨p,A,n,c,h1.s2 _,h2,h3.off ((rS.refl b _ _).setAt 2 _) h4,h4,by simpa using h5,h6⟩,(rS.refl b _ _).setAt 2 _,zG.off ((rS.refl b _ _).setAt 2 _)⟩):=h
def dq(h:P:=by rw[Bh _ _ _ hlen];unfold BL Au opt;cases tq x.aliases<;>rfl):=h
def dt(h:P:=by have:=AE.size;omega):=h
def du(h:P:=by simp only[Pw]at hf;omega):=h
def dv(h:P:=by generalize decide (i=0)=NB at*;generalize decide (text=[])=TB at*;generalize decide (n=0)=IB at*;cases NB<;>cases TB<;>cases IB;all_goals have h:=HH.out;simp at h;subst h;clear HH;go_wp2_with fail;go_ret;exact⟨rfl,Bj⟩):=h
def dw(h:P:=by repeat' (first|with_reducible exact Below.refl _ _|with_reducible assumption|with_reducible refine Below.drew ?_|with_reducible refine Below.setAt ?_ _ _|with_reducible refine Below.alloc ?_ (by simp<;>omega) _)):=h
def dx(h:P:=by unfold BL Au opt;cases tq x.aliases<;>rfl):=h
def dy(h:P:=by have:=(aaZ b hb).2.1;omega):=h
def dA(h:P:=by
 rcases h.2 with⟨hv,h0⟩|⟨g,cap,cur,hv,hb,hg,h1,_⟩;·omega
 ·injection hv with _ _ hc;omega):=h
def dC(h:P:=by simpa using h):=h
def dD(h:P:=by clear sP;refine aQ ?_;refine sI ?_;go_wp2_with fail;go_ret;exact⟨tI,A',n',c',rfl,S5,K4.trans K5⟩):=h
def dE(h:P:=by have:=hb.size;omega):=h
def dF(h:P:=by simp only[List.length_append];omega):=h
def dG(h:P:=by simp[intOf]):=h
def dH(h:P:=by simp[Cn]):=h
def dJ(h:P:=by have:=xo.size;omega):=h
def dL(h:P:=by rw[Y4.out,HCH.out,if_pos rfl];exact LH.setAt (ND) _ _):=h
def dO(h:P:=by
 have h1:=Vy e he hb;have h0:=(mem_ready.1 hr).1;rw[heq]at h1;rcases Nat.lt_or_ge i listed.size with h'|h';·simp[h']at h0 h1;rw[h0]at h1;cases h1
 ·simp[Array.getElem?_eq_none h']at h1):=h
def dP(h:P:=by have:(n+1)*bytes<=(n+1)*1000:=Nat.mul_le_mul_left _ hb;omega):=h
def dQ(h:P:=by have:=AZ.size;simp;omega):=h
def dR(h:P:=by rw[List.getElem?_set,if_pos rfl,if_pos ZB]):=h
def dS(h:P:=by rcases j with _|j<;>simp at hu;subst hu;unfold sv;go_simp):=h
def dU(h:P:=by clear hG;go_enter Tryz.func209,Tryz.ntmps209;go_wp2_with fail;refine hj.mono ?_;rintro e w1 ⟨rfl,hb⟩;clear hj;cases J;all_goals unfold Pb;go_wp2_with fail;go_ret2;exact⟨rfl,hb⟩):=h
def dV(h:P:=by rw[Bh _ _ _ hlen];exact oh):=h
def dW(h:P:=by unfold Oper.wp execOp;simp only[resolve,invoke,builtin,Sem.run_bind,Sem.run_pure,Result.andThen_ok,List.map_toArray,List.map_cons,List.map_nil,hs,hx,Il];exact hK _ _ (hh A2 c2 w' h2 h3)):=h
def dX(h:P:=by go_wp2_with(refine za (t:=x) rfl rfl ?_;intro c7 w7 hc7 hr7 hb7 RG);refine(hrt c7 w7 hr7).mono ?_;rintro e' w8 ⟨rfl,rfl⟩;clear hrt;go_wp2_with fail;go_ret;exact⟨rfl,hb7⟩):=h
def dY(h:P:=by have:=(Zy b hb).2.1;omega):=h
def dZ(h:P:=by have:=Zo _ hq;omega):=h
def ec(h:P:=by rw[vL.out];simp[h0]):=h
def ed(h:P:=by clear HR hR key En;go_wp2_with fail;refine VM.mono ?_;rintro e' w4 ⟨tI,A',n',c',rfl,S4,K4⟩;clear VM;exact om):=h
def ee(h:P:=by rcases hb with h|h|h;exact LJ b (.inl h);exact LJ b (.inr h);exact JR b h):=h
def eh(h:P:=by rcases hb with h|h|h;exact NG b (.inl h);exact NG b (.inr h);exact NI b h):=h
def ej(h:P:=by rcases hb with h|h|h;exact VN b (.inl h);exact VN b (.inr h);exact XU b h):=h
def eo(h:P:=by rcases hb.1 with h|h;exact h.elim;omega):=h
def ep(h:P:=by simp[Value.oneCell']):=h
def eq(h:P:=by cases B<;>simp[Value.ownBlock]):=h
def eu(h:P:=by
 have:=Y3.out;by_cases h:y=48
 ·have h1:¬1<k:=fun h1=>q2 ⟨h1,h⟩
  left;omega
 ·have:¬y.toNat=48:=fun e=>h (UInt8.toNat_inj.1 (by rw[e];rfl))
  omega):=h
def ev(h:P:=by rw[List.getElem?_eq_getElem Cl]at hx;injection hx):=h
def ew(h:P:=by refine sn ?_;go_wp2_with fail;go_ret;exact⟨rfl,hd⟩):=h
def ex(h:P:=by repeat' (first|with_reducible exact rS.refl _ _ _|with_reducible assumption|with_reducible refine rS.drew ?_|with_reducible refine rS.setAt ?_ _ _)):=h
def ey(h:P:=by have:=hX b hb;simp;omega):=h
def ez(h:P:=by rw[List.length_append];omega):=h
def eA(h:P:=by go_wp2_with fail;refine OX.mono ?_;rintro e' w4 ⟨rfl,hB4⟩;obtain⟨v2,hE⟩:=FIN.out w4 hB4;clear FIN OX u0 u2 u5;go_wp2_with fail;go_ret;exact⟨rfl,hE⟩):=h
def eB(h:P:=by go_ret;exact⟨A2,c2,rfl,LG,tm.trans DU⟩):=h
def eC(h:P:=by have:=(hX b hb).1;omega):=h
def eD(h:P:=by
 by_cases hq:q=a;·subst hq;rw[World.cell?_setCell_same _ _ _ h];exact h.symm
 ·exact World.cell?_setCell_other _ _ _ _ (fun e=>hq e.symm)):=h
def eE(h:P:=by rw[Addr.add_lit,Nat.zero_add];exact hq j u hu):=h
def eF(h:P:=by go_wp2_with fail;refine Te.mono ?_;rintro e1 w2 ⟨rfl,DU⟩;clear Te;have B2:=tm.sV (Nat.le_refl _) DU;go_wp2_with fail;go_ret;exact⟨rfl,B2⟩):=h
def eG(h:P:=by rintro e' w3 ⟨rfl,XS,Eo,hf3⟩;go_wp2_with fail;refine bodyPost_end (results_none rfl _ _ _) rfl ?_;exact⟨rfl,XS,H4.trans Eo,VD.trans hf3⟩):=h
def eH(h:P:=by rw[hx]at H5;injection H5):=h
def eI(h:P:=by simp[sk.deep]at hf;omega):=h
def eJ(h:P:=by simpa[yI]using this):=h
def eK(h:P:=by obtain⟨_,_,_,_,_,_,_,_,h1,h2,h3,h4⟩:=hF;exact⟨h1,h2,h3,h4⟩):=h
def eL(h:P:=by rw[HX.out]<;>omega):=h
def eM(h:P:=by simp only[Option.map_some,Option.some.injEq]at h;omega):=h
def eN(h:P:=by go_wp2_with fail;go_ret;exact⟨rfl,U3⟩):=h
def eO(h:P:=by generalize decide (n=0)=IB at*;cases TB<;>cases IB;all_goals have h:=HH.out;simp at h;subst h;clear HH;go_wp2_with fail;go_ret;exact⟨rfl,Bj⟩):=h
def eP(h:P:=by simp only[KJ]at hf;omega):=h
def eQ(h:P:=by simp[opt]):=h
def eR(h:P:=by simp[World.cell?,h]):=h
def eS(h:P:=by
 cases hh:v.items with
 |nil=>rw[hh]at OZ;cases OZ
 |cons a t=>rw[hh]at OZ;injection OZ with OZ;subst OZ;exact⟨t,rfl⟩):=h
def eT(h:P:=by obtain⟨_,_,_,_,_,_,_,h,_⟩:=hp;exact h):=h
def eU(h:P:=by rw[hx];simp;omega):=h
def eV(h:P:=by simp only[List.length_append,l1,l2];omega):=h
def eW(h:P:=by
 have:a<(S.take R).length:=by simp;omega
 rw[List.drop_eq_getElem_cons this];congr 1;have:=List.getElem?_eq_some_iff.1 hx;simp[this.2]):=h
def eX(h:P:=by intro j hj;cases j;simp at hj):=h
def eY(h:P:=by rw[List.getElem?_replicate];split<;>simp):=h
def eZ(h:P:=by rcases hb with h|h;(have:=hX _ h;omega);omega):=h
def fa(h:P:=by simp only[List.length_append,List.length_cons,List.length_nil];omega):=h
def fc(h:P:=by go_ret;rw[HF.out]at LH;exact⟨A6,_,c6,rfl,by rw[HNP.out];exact LH,(XK.trans (FA.mono YT)).trans xo,(Zw.sV FA).trans hg6⟩):=h
def fd(h:P:=by have:=hE.CZ _ hq;omega):=h
def fe(h:P:=by simpa using hq):=h
def fg(h:P:=by simpa using this):=h
def fh(h:P:=by rcases j with _|_|_|_|_|_|j<;>simp at hu<;>subst hu<;>first|exact t0|exact t1|exact t2|exact t3|exact t4'|exact t5'):=h
def fk(h:P:=by rw[List.drop_zero];exact rfl):=h
def fo(h:P:=by
 refine OY k ok hk hki ?_ hno;by_cases DZ:j=k;·subst DZ;exact VI
 ·rw[getD_set_ne true DZ]at hun;exact hun):=h
def fp(h:P:=by
 unfold se at h;split at h;·cases h
 ·split at h;·cases h
  ·rename_i h2;injection h with h;rw[<-h];exact h2):=h
def fq(h:P:=by go_wp2_with fail;go_ret;exact⟨tI,A',n',c',rfl,S4,K1.trans K4⟩):=h
def ft(h:P:=by rename_i h1;intro h;exact absurd h h1):=h
def fu(h:P:=by simpa using hj):=h
def fv(h:P:=by have:=List.sizeOf_lt_of_mem hx;omega):=h
def fw(h:P:=by
 rename_i hk;subst hk;cases hw:wk nx with
 |none=>rw[hw]at h;cases h
 |some RJ=>rw[hw]at h;exact .cons (hwk _ _ hw) (ih _ _ h)):=h
def fx(h:P:=by unfold sf at hn;simp at hn;omega):=h
def fy(h:P:=by simp only[List.length_cons,List.length_nil]at hf;omega):=h
def fA(h:P:=by cases hb):=h
def fB(h:P:=by
 have hd:=Y2.out;rw[hP]at hd;obtain rfl:R=false:=by simpa using hd
 clear hd Y2;go_wp2_with fail;go_ret;exact⟨rfl,XM⟩):=h
def fD(h:P:=by rcases hk3 with h|h;exact Zp b hb (h.symm.trans he);(rw[h]at he;injection he with he;have:=Zo b hb;omega)):=h
def fE(h:P:=by rw[KH]at he;exact he.symm):=h
def fF(h:P:=by simp[nS]):=h
def fG(h:P:=by
 intro ds sW;rcases List.mem_append.1 sW with hh|hh;·exact h2 ds hh
 ·rw[List.mem_singleton]at hh;rw[hh];exact hW.len hx):=h
def fH(h:P:=by rcases j with _|_|_|_|_|j<;>simp[jv]at hu<;>subst hu<;>first|exact i0|exact i1'|exact i2|exact i3|exact i4):=h
def fI(h:P:=by
 intro x H5;rw[List.mem_append,List.mem_singleton]at H5;rcases H5 with h|rfl;·exact hl x h
 ·exact h3):=h
def fJ(h:P:=by
 cases hT:se xs a with
 |ok v=>exact⟨v,rfl⟩
 |error e=>rw[hT]at h4;exact absurd h4 (by simp[Ci])):=h
def fK(h:P:=by
 rcases hc with hc|hc;·rw[hv b (by simp only[List.mem_cons];exact .inr (by simpa using hl))]at hc;cases hc
 ·exact hc):=h
def fM(h:P:=by rw[List.getElem?_eq_getElem Em]at hx;injection hx):=h
def fN(h:P:=by rw[List.getElem?_eq_getElem VP]at hy;injection hy):=h
def fO(h:P:=by rw[getD_set_ne true VF];exact hS):=h
def fP(h:P:=by exact⟨(World.cell?_setCell_other _ _ _ _ (by intro he;injection he with _ he _;exact e he)).trans this.1,this.2⟩):=h
def fQ(h:P:=by have:=Y3.out;omega):=h
def fR(h:P:=by rcases hb with h|h;(have:=hX b h;omega);exact h.2):=h
def fS(h:P:=by rcases hb with h|h<;>omega):=h
def fT(h:P:=by rcases hq with h|h;(have:=hX _ h;omega);exact h.2):=h
def fU(h:P:=by refine bodyPost_ret (results_none rfl _ _ _) rfl ?_;exact⟨rfl,A5,m+1,c5,Rx,JQ.setAt (ND) _ _,Dx.setAt _ _⟩):=h
def fV(h:P:=by rw[Ca.out];first|rfl|(by_cases h:jk=3<;>simp[h])):=h
def fW(h:P:=by simp at h):=h
def fX(h:P:=by unfold AS;kernel_rfl):=h
def fY(h:P:=by have:=hX b hb;have:=h.size;omega):=h
def fZ(h:P:=by obtain⟨css,h1,h2,h3⟩:=h;exact⟨css,h1.keep hk hY,h2,fun i hi YQ=>(h3 i hi YQ).keep hk hY⟩):=h
def ga(h:P:=by rw[List.drop_zero];exact YH.out):=h
def ge(h:P:=by
 rcases Nat.lt_or_ge j all.length with h|h;·exact h
 ·rw[List.drop_of_length_le h]at hd;cases hd):=h
def gg(h:P:=by rw[hm,if_pos rfl];exact yb hi (fun Q' hQ'=>h Q' (fun a' w' hb hp=>hQ' a' w' ⟨hb,hp⟩))):=h
def gh(h:P:=by rw[HD.out,LK hpx]):=h
def gj(h:P:=by rw[vL.out];simp[h0,h1]):=h
def gm(h:P:=by have:=hb.2.1;omega):=h
def gp(h:P:=by have:=u5 j;go_simp):=h
def gq(h:P:=by rcases hb with h|h;exact .inl h;exact .inr h.1):=h
def gt(h:P:=by simp only[Bool.not_eq_true',List.any_eq_false,Bool.not_eq_true',Bool.not_eq_false]at hl;exact hl x hx):=h
def gu(h:P:=by unfold Ba at*;rw[Lib.heap_setCell_same h];rfl):=h
def gv(h:P:=by
 rcases g5 with g5|g5;·exact Fh (g5.symm.trans he)
 ·rw[he]at g5;injection g5 with g5;omega):=h
def gw(h:P:=by rw[<-HL.out,List.take_length]):=h
def gy(h:P:=by simp only[List.length_cons,List.length_nil,List.append_assoc,List.cons_append,List.nil_append];congr 2;omega):=h
def gB(h:P:=by simp only[World.size_setCell];exact hpp4 b hb):=h
def gC(h:P:=by simpa[tF]using hi8):=h
def gD(h:P:=by have:=LF [];rw[VJ]at this;cases this;rfl):=h
def gE(h:P:=by unfold opt;cases tq f.aliases<;>cases f.has<;>rfl):=h
def gF(h:P:=by exact⟨World.cell?_setCell_same _ _ _ this.1,this.2⟩):=h
def gG(h:P:=by exact⟨rfl,(Below.refl _ _).alloc (Nat.le_refl _) _⟩):=h
def gH(h:P:=by have h:=Cv.out;rw[hc]at h;simp at h;omega):=h
def gI(h:P:=by rw[PJ.out];exact Ar):=h
def gJ(h:P:=by rw[List.getElem?_set,if_pos rfl,if_pos hi1]):=h
def gK(h:P:=by rw[List.length_replicate];exact HL.out.symm):=h
def gL(h:P:=by have:=a.at_;omega):=h
def gM(h:P:=by refine sn ?_;go_wp2_with fail;go_ret;exact⟨by rw[HR.out];by_cases h:x.kind=kd<;>simp[h],hd⟩):=h
def gN(h:P:=by rw[hb];exact XS):=h
def gO(h:P:=by have:=(hS.CZ b hb).1;omega):=h
def gP(h:P:=by have:=De.size;omega):=h
def gQ(h:P:=by have:=Bj.1;rw[PJ.out]at this;exact this):=h
def gR(h:P:=by have:=hit.len;omega):=h
def gS(h:P:=by rw[Vi,HJ.out];exact⟨0,0,⟨#[]⟩,none,0,0,none,0,0,by rw[HE.out],LM _ _,hb7.trans yq⟩):=h
def gT(h:P:=by rw[show({x with size:=z.int}:Nd).symbols=[]from hx.2.2.2.2.2];exact Row.nil _ _ _ _):=h
def gU(h:P:=by
 obtain rfl:R=false:=by rw[HR.out,hdd];simp
 clear HR hdd;go_wp2_with fail;go_ret;exact⟨rfl,U6⟩):=h
def gV(h:P:=by unfold vJ;rw[List.length_map,JH,hE]):=h
def gW(h:P:=by go_ret;exact⟨A4,c4,rfl,D1,((Below.refl _ _).al Dm _).trans DV,(xm.al A w _).trans MI⟩):=h
def gX(h:P:=by have:=(hX b hb).1;have:=E4.2.size;omega):=h
def gY(h:P:=by rcases hb with h|h|h;exact Qz b (.inl h);exact Qz b (.inr h);exact NH b h):=h
def gZ(h:P:=by rw[Array.setIfInBounds_comm _ _ (Ne.symm Em),getD_set_ne true VF]at h;exact h):=h
def hZ(h:P:=by go_enter Tryz.func262,Tryz.ntmps262;go_wp2;go_ret;exact⟨AH (by rw[HR.out];omega),rfl⟩):=h
def ia(h:P:=by have:=VO.choose_spec.choose_spec.choose_spec.choose_spec.2.2.2.2.1;exact this):=h
def ib(h:P:=by go_wp2_with fail;go_ret;exact⟨rfl,AZ.drewN q⟩):=h
def ic(h:P:=by have:=a.r.ER q b e;omega):=h
def ie(h:P:=by injection hv):=h
def ig(h:P:=by go_wp2_with fail;refine bodyPost_end (results_none rfl _ _ _) rfl ?_;exact⟨rfl,.inl rfl⟩):=h
def ij(h:P:=by intro c h;have h2:=key ⟨c.toNat,c.toNat_lt⟩;simp only[UInt8.ofNat_toNat]at h2;exact h2 h):=h
def ik(h:P:=by exact Row.nil _ _ _ _):=h
def il(h:P:=by have:=p8 j;go_simp):=h
def im(h:P:=by rw[List.drop_eq_getElem_cons Cl,QE]):=h
def io(h:P:=by rw[<-W4];go_simp):=h
def iq(h:P:=by intro cs VB;unfold uF at VB;obtain⟨t,_,rfl⟩:=List.mem_map.1 VB;rfl):=h
def iu(h:P:=by have:=VO.choose_spec.choose_spec.choose_spec.choose_spec.2.2.2.2.1;omega):=h
def iw(h:P:=by injection h with h;rw[<-h];exact he):=h
def ix(h:P:=by
 rcases List.mem_append.1 hk with hk|hk;·exact h2 k hk
 ·rw[List.mem_singleton.1 hk];simp):=h
def iy(h:P:=by simpa using hp):=h
def iA(h:P:=by go_enter Tryz.func262,Tryz.ntmps262;go_wp2;go_ret;exact⟨AH (by rw[HR.out]),rfl⟩):=h
def iB(h:P:=by unfold yI;rw[List.getElem?_map,List.getElem?_eq_getElem ZF,<-WX];rfl):=h
def iC(h:P:=by have:=RB b hb;have:=RC.size;omega):=h
def iD(h:P:=by rw[List.drop_eq_nil_iff];simp;omega):=h
def iE(h:P:=by simp[h]):=h
def iF(h:P:=by repeat' (first|with_reducible exact rS.of xo|with_reducible refine rS.setAt ?_ _ _)):=h
def iG(h:P:=by repeat' (first|with_reducible exact rS.of hb7|with_reducible refine rS.setAt ?_ _ _)):=h
def iH(h:P:=by rw[List.take_add_one,List.getElem?_eq_getElem Cl,List.map_append];rfl):=h
def iI(h:P:=by exact⟨v,Or.inl ⟨hw,fun w' _=>hy w'⟩,h⟩):=h
def iJ(h:P:=by exact⟨v,Or.inl ⟨hw,hy⟩,h⟩):=h
def iK(h:P:=by have:=(wi hR).1.2.1;omega):=h
def iL(h:P:=by have:=XN.len;simpa[Xw]using this):=h
def iM(h:P:=by injection h with h;rw[<-h];decide):=h
def iN(h:P:=by
 split at h;·assumption
 ·cases h):=h
def iO(h:P:=by rw[<-r2];exact r1.len):=h
def iP(h:P:=by go_wp2_with fail;go_ret;exact⟨own,A,n,c,rfl,by rw[List.append_nil];exact S2,K2⟩):=h
def iQ(h:P:=by have:=hX b hb;have:=S2.r.lt;omega):=h
def iR(h:P:=by simpa using hr):=h
def iS(h:P:=by simp[Program.elem,ht]):=h
def iT(h:P:=by injection W1 with W1;injection W1 with h1 h2;exact⟨h1,h2⟩):=h
def iU(h:P:=by obtain⟨t,_,rfl⟩:=List.mem_map.1 VB;rw[List.mem_singleton]at hu;subst hu;rfl):=h
def iV(h:P:=by simp[DN,hl]):=h
def iW(h:P:=by exact Nat.le_refl _):=h
def iX(h:P:=by exact Qy.setAt (ND) _ _):=h
def iY(h:P:=by go_wp2_with fail;go_ret;exact⟨rfl,XL⟩):=h
def iZ(h:P:=by go_wp2_with fail;go_ret;exact⟨rfl,NA⟩):=h
def ja(h:P:=by have:=(List.getElem?_eq_some_iff.1 hx).1;have:=hS.row.len;omega):=h
def jb(h:P:=by injection h with h;injection h with h1 h2;subst h2;exact⟨rfl,XV.1⟩):=h
def jd(h:P:=by rw[KH]at hb;exact(VA b hb).1):=h
def je(h:P:=by simpa using VF):=h
def jf(h:P:=by unfold wa;simp only[hq,Bool.and_true,decide_eq_true_eq];omega):=h
def jg(h:P:=by simp[hj]):=h
def jh(h:P:=by go_wp2_with fail;go_ret;exact⟨rfl,yq⟩):=h
def jl(h:P:=by have:=(Sd.r.lo b hl).2.1;omega):=h
def jm(h:P:=by rw[List.take_add_one,List.getElem?_eq_getElem Cl,<-hk1];rfl):=h
def jn(h:P:=by cases f with|zero=>simp at hu;omega|succ f=>exact⟨f,rfl⟩):=h
def jo(h:P:=by obtain⟨h6,h7,_⟩:=xG h4;exact⟨h6,by rw[h2,h5,h7];simp[Lq],h3⟩):=h
def jp(h:P:=by rw[Df.rest k (Nat.le_refl _),List.getElem?_eq_getElem YR]):=h
def jq(h:P:=by have:=vu.size;omega):=h
def jr(h:P:=by rcases j with _|j<;>simp at hu;subst hu;unfold sv;exact ck2):=h
def jt(h:P:=by rw[E3.out];rfl):=h
def ju(h:P:=by rw[HX0.out]<;>omega):=h
def jw(h:P:=by rw[h]at hr;cases hr):=h
def jx(h:P:=by simpa using hk):=h
def jy(h:P:=by unfold DW;rw[Int.toNat_natCast,List.getElem?_map,hx];rfl):=h
def jz(h:P:=by cases h;simp[Value.oneCell']):=h
def jB(h:P:=by exact absurd rfl h):=h
def jD(h:P:=by intro nx R h;simp only[zm,Option.some.injEq]at h;subst h;exact .nil nx):=h
def jE(h:P:=by have:=hS.at_;omega):=h
def jF(h:P:=by
 intro j hj;rcases List.mem_cons.1 hj with rfl|hj;·omega
 ·exact h4 j hj):=h
def jG(h:P:=by have:=RC.size;have:=RD.size;omega):=h
def jH(h:P:=by rw[yn,hr.1];omega):=h
def jI(h:P:=by rw[Bh _ _ _ rfl];rfl):=h
def jJ(h:P:=by rw[vI,if_pos (.inr ⟨rfl,H5⟩)]):=h
def jK(h:P:=by rw[<-Bool.or_assoc,hv];rfl):=h
def jM(h:P:=by have:=hz1.size;omega):=h
def jP(h:P:=by rcases hb with h|h;(have:=h.1;have:=h.2.1;omega);omega):=h
def jQ(h:P:=by rw[List.drop_eq_getElem_cons ha];simp[pk,List.getD,ha]):=h
def jR(h:P:=by rw[List.take_of_length_le (List.drop_eq_nil_iff.1 hd)]):=h
def jS(h:P:=by unfold WV;rw[List.getElem?_eq_getElem ZF,<-WX];rfl):=h
def jU(h:P:=by unfold zq;rw[if_pos HR.out,if_neg (by rw[hv];simp)]):=h
def jV(h:P:=by exact⟨undef,Or.inr ⟨hw,rfl⟩,h⟩):=h
def jW(h:P:=by have:=List.sizeOf_lt_of_mem hx;simp only[J.mk.sizeOf_spec]at hj;omega):=h
def jX(h:P:=by obtain⟨cur,fz,e⟩:=QX ho he;exact hn _ _ e):=h
def jY(h:P:=by rw[List.getElem?_eq_getElem Qu]at Zv;injection Zv):=h
def j5(h:P:=by simp only[List.length_cons,List.length_append,List.length_nil];omega):=h
def j6(h:P:=by exact(xS QC _).Wx):=h
def j7(h:P:=by exact⟨⟨Nat.lt_of_lt_of_le a.1 b.size,by rw[e];exact a.2⟩,e⟩):=h
def j8(h:P:=by rw[HL.out];exact ho.2.2.2):=h
def j9(h:P:=by rw[List.take_add_one,hx];simp):=h
def ke(h:P:=by simpa using h3):=h
def kf(h:P:=by unfold yw;rw[if_neg hd,if_pos hsb,if_pos rfl]):=h
def kg(h:P:=by rw[List.getElem?_eq_getElem YQ]at hx;injection hx):=h
def kh(h:P:=by rw[List.getElem?_eq_getElem WW]at hx;injection hx):=h
def ki(h:P:=by rw[List.getElem?_eq_getElem RF]at hx;injection hx):=h
def kj(h:P:=by rw[List.getElem?_eq_getElem WY]at hf;injection hf):=h
def kl(h:P:=by rw[List.getElem?_eq_getElem W2]at hy;injection hy):=h
def km(h:P:=by cases hlv with|mk a b c d e=>exact⟨a,b,c,d,e⟩):=h
def ko(h:P:=by cases j;simp only[J.mk.sizeOf_spec];simp only[J.items]at h1;omega):=h
def kq(h:P:=by obtain⟨css,h1,h2,_⟩:=h;rw[<-h2];exact h1.len):=h
def ku(h:P:=by rintro rfl;rcases hb with h|h;exact VE.1 h;omega):=h
def kw(h:P:=by rintro rfl;rcases hb with h|h;exact VE.2 h;omega):=h
def ky(h:P:=by rw[HL.out.2.1];exact Ar):=h
def kA(h:P:=by simp only[List.length_append,List.length_cons,List.length_nil,h3]):=h
def kB(h:P:=by unfold sf;simp;omega):=h
def kC(h:P:=by rcases hq with h|h;(have:=h.2.1;omega);exact h.2):=h
def kD(h:P:=by clear HR;go_wp2_with fail;go_ret;exact⟨rfl,XR,rS.of tm⟩):=h
def kE(h:P:=by have:=h.1;omega):=h
def kF(h:P:=by rcases j with _|j<;>simp at hu;subst hu;go_simp):=h
def kG(h:P:=by rw[Ca.out];rfl):=h
def kH(h:P:=by rw[vL.out];rfl):=h
def kI(h:P:=by have:=(List.getElem?_eq_some_iff.1 hx).1;omega):=h
def kJ(h:P:=by rw[hx]at hxa;injection hxa with h;exact h.symm):=h
def kK(h:P:=by rw[hy]at ZL;injection ZL with h;exact h.symm):=h
def kL(h:P:=by simp at this;omega):=h
def kM(h:P:=by rw[List.length_set,List.length_set];exact hyl):=h
def kN(h:P:=by rw[JB];exact h2):=h
def kO(h:P:=by cases f with|zero=>rfl|succ f=>simp[uU,h9]):=h
def kP(h:P:=by rw[Oy.out,<-hb];exact sL C3 b 30):=h
def kQ(h:P:=by simp[hc]):=h
def kR(h:P:=by simpa using hy):=h
def kS(h:P:=by unfold U8;rw[W6];unfold NU;rw[HF.out,W0]):=h
def kT(h:P:=by unfold pk;rw[List.getD,List.getElem?_eq_none h'];rfl):=h
def kU(h:P:=by
 go_wp2_with fail;refine OX.mono ?_;rintro e' w7 ⟨rfl,B7⟩;clear OX f0;have S7:=B7.st S6;have hz7:=B7.2.size;have O7:=O6.sV V B7.2;have J7:=J6.off B7.2 V V;have R7:=R6.off B7.2 V V;have F7:=F6.off B7.2 W5 V;have hj7:=ZA.wL B7.2 (fun b hb=>bl);clear S6 O6 J6 R6 F6 ZA B7;go_upto_region 9 with fail;refine vS (K:=Kb (fun b=>b=g\/b=w5.heap.size)) (Kb.keeps _) (sk.of [0,1,2,3,4,5,6,7] .nil) 8 (sk.of [] .nil) [6] [4,5] bg bg bC bg (fun _ _ d _ _ h=>bw) (fun wd hd sW=> ?_);have S8:=S7.below hd;have hz8:=hd.size;have O8:=O7.sV V (rS.of hd);have J8:=J7.below hd V;have R8:=R7.below hd V;have F8:=F7.below hd V;have hj8:=hj7.stay hd (fun b hb=>bl);clear S7 O7 J7 R7 F7 hj7 hd sW;have d0:=S8.cl.c0;have d1:=S8.cl.c1;have f0:=F8.c 0 _ rfl;have hg8:=S8.cl.lt;refine aO ?_;refine uC rfl rfl 0 (Nat.le_refl _) (fun Q1 sP=> ?_);have hfn:=KQ S 0 full wd _ A n c S8.r.Md S8.r.RI (by have:=S8.r.le;omega);have hE2x:=WT.out;generalize zH (S.map sQ) full=FI at*;have HE2':=Lib.hid hE2x;clear hE2x;go_wp2_with fail;refine hfn.mono ?_;rintro e' w9 ⟨rfl,hb9⟩;clear hfn;go_wp2_with fail;refine sP _ _ (Kb.below (fun b hb=>V) hb9) ?_;clear sP d0 d1 f0;have S9:=S8.below hb9;have hz9:=hb9.size;have O9:=O8.sV V (rS.of hb9);have J9:=J8.below hb9 V;have R9:=R8.below hb9 V;have F9:=F8.below hb9 V;have hj9:=hj8.stay hb9 (fun b hb=>bl);clear S8 O8 J8 R8 F8 hj8 hb9;refine aL ?_;refine Be rfl (fun Q1 sP=> ?_);have OX:=sL S9.cl (decide (0<=FI)) 32;rw[<-HE2'.out]at OX;go_wp2_with fail;refine OX.mono ?_;rintro e' w10 ⟨rfl,B10⟩;clear OX HE2';go_wp2_with fail;refine sP _ _ trivial ?_;clear sP;refine sI ?_;have S10:=B10.st S9;have hz10:=B10.2.size;have O10:=O9.sV V B10.2;have J10:=J9.off B10.2 V V;have R10:=R9.off B10.2 V V;have F10:=F9.off B10.2 V V;have hj10:=hj9.wL B10.2 (fun b hb=>bl);clear S9 O9 J9 R9 F9 hj9 B10;go_upto_region 10 with fail;refine vS (K:=Kb (fun b=>b=w.heap.size\/b=w5.heap.size)) (Kb.keeps _) (sk.of [0,1,2,3,4,5,6] .nil) 7 (sk.of [] .nil) [5] [1,3] bg bg bC bg (fun _ _ d _ _ h=>bw) (fun wh hd sW=> ?_);have S11:=S10.below hd;have hz11:=hd.size;have O11:=O10.sV V (rS.of hd);have J11:=J10.below hd V;have R11:=R10.below hd V;have F11:=F10.below hd V;have hj11:=hj10.stay hd (fun b hb=>bl);clear S10 O10 J10 R10 F10 hj10 hd sW;obtain⟨b0,b1,b2,b3,b4, -⟩:=J11.xB;have f0:=F11.c 0 _ rfl;have hg11:=S11.cl.lt;have h2:=S11.at_;refine aP ?_;refine uC rfl rfl 0 (Nat.le_refl _) (fun Q1 sP=> ?_);have hla:=DM (fun s=>Fi (vv (sE full) s)) j QC S11.cl X k i t B m d B' m' d' hj11 hX 211 (enters_of Tryz.func211 bg rfl) #[.pointer (some ⟨w5.heap.size,0,none⟩)] (fun s hs w' ho=>Qa full s V hs w5.heap.size w' ((ho.cell (p:=⟨w5.heap.size,0,none⟩) bd bd).trans f0) (xY S11.zk fun b hb=>ho.block b V V));rw[<-WS.out]at hla;go_wp2_with fail;refine hla.mono ?_;rintro e' UK ⟨A1,n1,c1,rfl,Yg,hc12,B12⟩;clear hla b0 b1 b2 b3 b4 f0;go_wp2_with fail;refine sP _ _ (Kb.off (fun b hb=>V) B12.2) ?_;clear sP;have hz12:=B12.2.size;have O12:=O11.sV V B12.2;have R12:=R11.off B12.2 V V;have C12:=B12.1;clear S11 O11 J11 R11 F11 hj11 B12 WS WT;refine aL ?_;obtain⟨s0,s1,s2,s3,s4,s5,s6,s7,s8,s9,rf⟩:=R12.yk;refine Be rfl (fun Q1 sP=> ?_);go_wp2_with fail;refine sP _ _ trivial ?_;clear sP;refine sI ?_;have R13:=((((((((((R12.set 0 (.int .i64 kind)).set 1 (.string ⟨full.toArray⟩)).set 2 (.slice A1 n1 c1)).set 3 (.slice none 0 0)).set 4 (.slice none 0 0)).set 5 (.bool false)).set 6 (.string ⟨#[]⟩)).set 7 (.int .i64 0)).set 8 (.int .i64 0)).set 9 (.slice none 0 0));simp only[List.set_cons_zero,List.set_cons_succ]at R13;go_wp2_with fail;refine bodyPost_ret (Yj rfl rfl R13 ep) rfl ?_;have O13:∀u0 u1 u2 u3 u4 u5 u6 u7 u8 u9,rS (w.heap.size+1) UK.heap.size UK ((((((((((UK.setCell ⟨w.heap.size+1,0,none⟩ u0).setCell ⟨w.heap.size+1,1,none⟩ u1).setCell ⟨w.heap.size+1,2,none⟩ u2).setCell ⟨w.heap.size+1,3,none⟩ u3).setCell ⟨w.heap.size+1,4,none⟩ u4).setCell ⟨w.heap.size+1,5,none⟩ u5).setCell ⟨w.heap.size+1,6,none⟩ u6).setCell ⟨w.heap.size+1,7,none⟩ u7).setCell ⟨w.heap.size+1,8,none⟩ u8).setCell ⟨w.heap.size+1,9,none⟩ u9):=fun u0 u1 u2 u3 u4 u5 u6 u7 u8 u9=>bm
 have O13':=O13 (.int .i64 kind) (.string ⟨full.toArray⟩) (.slice A1 n1 c1) (.slice none 0 0) (.slice none 0 0) (.bool false) (.string ⟨#[]⟩) (.int .i64 0) (.int .i64 0) (.slice none 0 0);have hz13:=O13'.size;exact⟨A1,n1,c1,rfl,Yg.keep (fun q hq=>O13'.cell V V) (fun b hb=>⟨V,V⟩),hc12,C12.keep hz13 (O13'.block g V V),O12.trans (rS.of (O13'.below (B':=w.heap.size) V V))⟩):=h
def kV(h:P:=by
 go_wp2_with(at_builtin;go_must(refine wv (z:=jA 0 0 ⟨#[]⟩ none 0 0 none 0 0) (bytes:=80) (y:=x) (cs:=jv k i t Ax nx cx Ay ny cy) rfl Tryz.underlying58 yt rfl V V uG rfl rfl J3 xi (fun b hb=>(K3.block b hb).2.1) (fun j u hu=>dc) V V ?_);intro Bi ei z4 J4 fb4 gi4 hi4);have hne4:∀b,(b=o\/b=w.heap.size\/b=B1)->b<z3.heap.size/\A.map (·.block)≠some b:=fun b hb=>⟨ej,fun he=>by have:=aaV b he;omega⟩
 refine sP _ _ (Kb.El hne4 gi4) (Kb.El (fun b hb=>hne4 b (.inr (.inr hb))) gi4) ?_;clear sP;have K4:=K3.El ui gi4 hi4;have f4:=f3.trans fb4;have sz4:=gi4.1;have oe4:=(gi4.2 o (hne4 o (.inl rfl)).1 (hne4 o (.inl rfl)).2).trans oe3;have be4:=(gi4.2 B1 (hne4 B1 (.inr (.inr rfl))).1 (hne4 B1 (.inr (.inr rfl))).2).trans be3;have hpl4:∀b,(b=o\/b=w.heap.size)->b<z4.heap.size:=fun b hb=>by have:=VN b hb;omega
 have hpp4:∀b,b=B1->b<z4.heap.size:=fun b hb=>by have:=XU b hb;omega
 have wm4:w.heap.size<z4.heap.size:=V;refine aK ?_;have JO:=hJo.keep (w':=z4) (fun j=>World.cell?_of_block (w:=w1) (a:=⟨o,j,none⟩) oe4) (fun j=>World.frozen?_of_block (w:=w1) (a:=⟨o,j,none⟩) oe4);have BO:=(World.cell?_of_block (w:=w1) (a:=⟨B1,0,none⟩) be4).trans hB1;have osz:=hpl4 o (.inl rfl);obtain⟨⟨u0,u1,u2,u3,u4⟩,u5⟩:=JO;have KH:¬o=B1:=fun h=>XS h.symm
 refine M7 rfl (fun Q1 sP=> ?_);go_wp2_with fail;refine sP _ _ (fun b hb=>((rS.refl o z4.heap.size z4).setAt 4 _).block b (hpp4 b hb) gN) ?_;clear sP;refine ai ?_;refine rZ rfl rfl 0 (Nat.le_refl _) (fun Q1 sP=> ?_);go_wp2_with fail;refine sP _ _ (fun b hb=>((rS.refl o (z4.setCell ⟨o,4,none⟩ (.slice Bk (n'+1) ek)).heap.size _).setAt 3 _).block b gB gN) ?_;clear sP;refine sI ?_;go_wp2_with fail;refine bodyPost_end (results_none rfl _ _ _) rfl ?_;have hSo:¬S o:=fun h=>(hSb o h).2.1 rfl
 refine⟨rfl,⟨Bi,n+1,ei,Bk,n'+1,ek,bf,⟨⟨bf,bf,bf,bf,bf⟩,fun j=>gp⟩,(J4.setAt uG ZE hSo 4 _).setAt uG ZE hSo 3 _,(K4.setAt ui ZE (fun h=>h) 4 _).setAt ui ZE (fun h=>h) 3 _,⟨hp1,ZE,XS,by simp;omega⟩,hSb⟩,?_⟩;exact((rS.of (tm.mono hwH)).trans ((rS.of (Bj.mono V)).trans (rS.of f4))).setAt 4 _|>.setAt 3 _):=h
def kW(h:P:=by obtain⟨⟨b0,b1,b2,b3,b4,b5,b6,b7,b8,b9⟩,bz⟩:=N4;go_wp2_with fail;refine(xH x.name w4).mono ?_;rintro e' w5 ⟨rfl,Fg⟩;have hz5:=Fg.size;have R5:=R4.below Fg V;have S5:=S4.below Fg V;have O5:=O4.trans (sr.below (Fg.mono V));clear b0 b1 b2 b3 b4 b5 b6 b7 b8 b9 bz;obtain⟨⟨u0,u1,u2,u3,u4⟩,u5⟩:=R5;go_wp2_with fail;refine bodyPost_ret (uD (k:=4) (i:=0) (t:=⟨(x.name).toArray⟩) (A:=none) (n:=0) (c:=0) (A':=none) (n':=0) (c':=0) rfl rfl ⟨bf,bf,bf,bf,bf⟩) rfl ?_;have AE:rS w.heap.size w5.heap.size w5 (((((w5.setCell ⟨w.heap.size,0,none⟩ (.int .i64 4)).setCell ⟨w.heap.size,1,none⟩ (.int .i64 0)).setCell ⟨w.heap.size,2,none⟩ (.string ⟨(x.name).toArray⟩)).setCell ⟨w.heap.size,3,none⟩ (.slice none 0 0)).setCell ⟨w.heap.size,4,none⟩ (.slice none 0 0)):=(((((rS.refl _ _ _).setAt 0 _).setAt 1 _).setAt 2 _).setAt 3 _).setAt 4 _;have yq:Below w.heap.size w5 _:=AE.below V (Nat.le_refl _);exact⟨4,0,⟨(x.name).toArray⟩,none,0,0,none,0,0,rfl,xE _ _ _,S5.keep AE.size (fun b hb=>yq.block b V),O5.trans (sr.below yq)⟩):=h
def kX(h:P:=by
 have hsr:Bs S=x8 S (33+1) [] 0 (List.replicate n false,false):=by unfold Bs;rw[HL.out]
 have e0:((0:Nat):Int).toNat=0:=rfl;rw[e0,<-hsr]at AD;clear hsr e0 VL S5 c0 c1 c2 c3 cz M5 hr5 hG5 HC;refine aK ?_;refine M7 rfl (fun Q1 sP=> ?_);go_wp2_with fail;refine sP _ _ ((Kb.keeps _).refl 0 _) ?_;clear sP;refine sI ?_;go_wp2_with fail;refine AD.mono ?_;rintro e' w6 ⟨kk,ii,tt,Ax,nx,cx,Ay,ny,cy,rfl,ZA,S6,hO6⟩;clear AD;have hz6:=hO6.size;have R6:=R5.zw (hO6.block (w.heap.size+1) V V V);have xo:=Fg.trans (hO6.out (B':=w.heap.size) V V V);have al7:=(Below.refl w6.heap.size w6).al (Nat.le_refl _) (jC kk ii tt Ax nx cx Ay ny cy);have J7:=vC.new w6 kk ii tt Ax nx cx Ay ny cy w6.heap.size rfl;have v3:=(al7.cell (p:=⟨w4.heap.size,3,none⟩) bd).trans S6.c3;have R7:=R6.below al7 V;have RG:(w6.alloc (jC kk ii tt Ax nx cx Ay ny cy)).heap.size=w6.heap.size+1:=bi;have hb7:=xo.trans (al7.mono (B':=w.heap.size) V);have hj7:=ZA.keep (w':=w6.alloc (jC kk ii tt Ax nx cx Ay ny cy)) (Y:=fun b=>(w.heap.size+2<=b/\b<w6.heap.size)) (fun q hq=>al7.cell kC) (fun b hb=>jP);clear R5 R6 S6 hO6 Fg xo al7 ZA e5;go_upto_region 5 with fail;generalize w6.alloc (jC kk ii tt Ax nx cx Ay ny cy)=w7 at*;have hs7a:w7.heap.size<=w6.heap.size+1:=V;have hs7b:w6.heap.size+1<=w7.heap.size:=V;clear RG;obtain⟨⟨u0,u1,u2,u3,u4⟩,u5⟩:=R7;obtain⟨⟨v0',v1',v2',v3',v4'⟩,v5'⟩:=J7;cases hv:(Bs S).2.2 with
 |true=>rw[hv]at v3;have HE:=Lib.hid (show zq S 0=31 by unfold zq;rw[if_pos HR.out,if_pos hv]);have HJ:=Lib.hid (show uI S 0=J.zero by unfold uI;rw[HE.out];rfl);clear hv;go_wp2_with fail;refine bodyPost_ret (AI (te:=.int .i64 31) (k:=0) (i:=0) (t:=⟨#[]⟩) (A:=none) (n:=0) (c:=0) (A':=none) (n':=0) (c':=0) rfl rfl rfl ⟨bf,bf,bf,bf,bf⟩) rfl ?_;have AE:rS (w.heap.size+1) w7.heap.size w7 (((((w7.setCell ⟨w.heap.size+1,0,none⟩ (.int .i64 0)).setCell ⟨w.heap.size+1,1,none⟩ (.int .i64 0)).setCell ⟨w.heap.size+1,2,none⟩ (.string ⟨#[]⟩)).setCell ⟨w.heap.size+1,3,none⟩ (.slice none 0 0)).setCell ⟨w.heap.size+1,4,none⟩ (.slice none 0 0)):=(((((rS.refl _ _ _).setAt 0 _).setAt 1 _).setAt 2 _).setAt 3 _).setAt 4 _;have yq:Below w.heap.size w7 _:=AE.below V V;exact gS
 |false=>rw[hv]at v3;have HE:=Lib.hid (show zq S 0=0 from jU);have HJ:=Lib.hid (show uI S 0=(Bs S).1 by unfold uI;rw[if_pos HE.out]);clear hv;go_wp2_with fail;refine bodyPost_ret (AI (te:=.int .i64 0) (k:=kk) (i:=ii) (t:=tt) (A:=Ax) (n:=nx) (c:=cx) (A':=Ay) (n':=ny) (c':=cy) rfl rfl rfl ⟨bf,bf,bf,bf,bf⟩) rfl ?_;have AE:rS (w.heap.size+1) w7.heap.size w7 (((((w7.setCell ⟨w.heap.size+1,0,none⟩ (.int .i64 kk)).setCell ⟨w.heap.size+1,1,none⟩ (.int .i64 ii)).setCell ⟨w.heap.size+1,2,none⟩ (.string tt)).setCell ⟨w.heap.size+1,3,none⟩ (.slice Ax nx cx)).setCell ⟨w.heap.size+1,4,none⟩ (.slice Ay ny cy)):=(((((rS.refl _ _ _).setAt 0 _).setAt 1 _).setAt 2 _).setAt 3 _).setAt 4 _;have yq:Below w.heap.size w7 _:=AE.below V V;rw[Vi,HJ.out];exact⟨kk,ii,tt,Ax,nx,cx,Ay,ny,cy,by rw[HE.out],hj7.keep (fun q hq=>AE.cell (by have:=hq.2;omega) (by have:=hq.1;omega)) (fun b hb=>⟨by have:=hb.1;omega,by have:=hb.2;exact dt⟩),hb7.trans yq⟩):=h
def kY(h:P:=by
 go_wp2_with fail;refine(Zx w3).mono ?_;rintro e' w4 ⟨rfl,rfl⟩;clear Zx;cases hv:FC cc with
 |none=>rw[hv]at HQ;simp only at HQ;go_wp2_with fail;refine su [0,1,2,3,4,5,6,7,8,9,10,11,12,13] [] bg bg bi bg (fun _ _ d _ _ h=>bw) (fun wd hd sW=> ?_);have FK:=Lib.hid (wP.below ZK hd W4);exact cP
 |some dd=>
  obtain⟨hd16,Fh⟩:=hvl dd hv;have hbn:=hpn Fh;rw[hv]at HQ;simp only at HQ;have H4:=QF u dd pl hd16;have hu3:u<4096:=pl;have d1:decide ((n:Int)<=b)=false:=by simp;omega
  have d2:decide (n<=b)=false:=by simp;omega
  go_wp2_with fail;refine su [0,1,2,3,4,5,6,7,8,9,10,11,12,13] [] bg bg bi bg (fun _ _ d _ _ h=>bw) (fun wd hd sW=> ?_);have FK:=Lib.hid (wP.below ZK hd W4);have FB:=Zr.trans ((rS.of hd (g:=g)).mono U6);have ZI:g<wd.heap.size:=V;clear sW hd;refine ae ?_;refine sn ?_;obtain⟨⟨r0,r1,r2,r3⟩,k1,k2,k3⟩:=FK.out;have hor':bits BinOp.or IntKind.i32 ((u:Int)*16) (dd:Int)=((u*16+dd:Nat):Int):=by simpa using H4
  clear H4;have HOR:=Lib.hid hor';have hpow:16^(j+1)=16^j*16:=Nat.pow_succ ..;have HPW:=Lib.hid hpow;clear hor' hpow;go_wp2;have e5:((b+1:Nat):Int)=(b:Int)+1:=V;refine⟨⟨j+1,b+1,u*16+dd,bi,V,by rw[HOR.out],by rw[HPW.out];omega,V,HQ.out,by rw[e5];exact oP,FB.setAt 1 _,by simpa using ZI⟩,?_⟩;exact bK):=h
def kZ(h:P:=by
 go_wp2_with fail;cases OU:Ut.yv N1
 ·rw[OU]at yr;rw[if_neg bi,if_neg bi]at yr;have HCH:=Lib.hid OU;clear OU;refine yr.mono ?_;rintro e' w6 ⟨A6,m6,c6,rfl,LH,xo⟩;have hx6:=KC.out.below xo (ND);have W5:base<=w6.heap.size:=dJ;have GZ:=Dx.trans (rS.of xo);clear r0 r1 r2 r3 k1 k2 k3 JQ Dx xo QA Ik KC yr;go_wp2_with fail;refine(uy g A A' n c m d (a1:Int) 0 20 w6 hx6 V).mono ?_;rintro e' w7 ⟨rfl,JS,hf7⟩;rw[if_pos rfl]at JS;have Qy:=LH.off hf7 (ND);have zl:=GZ.trans (hf7.mono V);clear hx6 LH GZ hf7;obtain⟨⟨r0,r1,r2,r3⟩,k1,k2,k3⟩:=JS;go_wp2_with fail;refine bodyPost_end (results_none rfl _ _ _) rfl ?_;refine⟨rfl,A6,m6,c6,?_,?_,zl.setAt _ _⟩;·rw[HEE.out,HCH.out,if_neg bi];exact oP
  ·rw[Y4.out,HCH.out,if_neg bi];exact iX
 ·exact oL):=h
def la(h:P:=by
 have hz2:=O2.size;clear b0 b1 b2 b3 b4 v0 v1 v2 v3 v4 v5 vf;refine td (K:=Kb (fun b=>b=w.heap.size\/b=w.heap.size+2)) (Kb.keeps _) (sk.of [0,1,2,3,4,5] .nil) [4] bg bg bC bg (fun _ _ d _ _ h=>bw) (fun wd hd sW=> ?_);obtain⟨b0,b1,b2,b3,b4, -⟩:=(J2.below hd V).xB;simp only[List.set_cons_zero,List.set_cons_succ]at V2;obtain⟨v0,v1,v2,v3,v4,v5,vf⟩:=(V2.below hd V).xa;have Rd:=R2.below hd V;have Bj:=DU.trans (hd.mono (B':=w.heap.size) V);have hzd:=hd.size;clear hd sW;refine aS ?_;obtain⟨s0,s1,s2,s3,s4,s5,rf⟩:=Rd.xa;refine rZ rfl rfl 0 (Nat.le_refl _) (fun Q1 sP=> ?_);go_wp2_with fail;refine sP _ _ (fun b hb=> ?_) ?_;·exact oN
 clear sP;refine aQ ?_;refine sI ?_;go_wp2_with fail;refine bodyPost_ret (wu rfl rfl rfl ((((((Rd.set 0 _).set 1 _).set 2 _).set 3 _).set 4 _).set 5 _)) rfl ?_;refine⟨_,_,_,_,_,_,_,_,_,_,_,_,fV,?_⟩;exact oT):=h
def ld(h:P:=by exact oN):=h
def lf(h:P:=by exact oL):=h
def lg(h:P:=by rintro e' w2 ⟨rfl,h2,hf2⟩;rw[if_pos rfl]at h2;have hs2:=hf2.size;have JR2:=Xl.off hf2 V V;have LG:=Qx.trans (hf2.mono V);clear Xl Qx hf2;obtain⟨⟨u0,u1,u2,u3,u4⟩,u5⟩:=JR2;go_wp2_with fail;have BQ:rS w.heap.size w2.heap.size w2 (((((w2.setCell ⟨w.heap.size,0,none⟩ (.int .i64 0)).setCell ⟨w.heap.size,1,none⟩ (.int .i64 0)).setCell ⟨w.heap.size,2,none⟩ (.string ⟨#[]⟩)).setCell ⟨w.heap.size,3,none⟩ (.slice none 0 0)).setCell ⟨w.heap.size,4,none⟩ (.slice none 0 0)):=(((((rS.refl _ _ _).setAt 0 _).setAt 1 _).setAt 2 _).setAt 3 _).setAt 4 _;refine bodyPost_ret (uD (k:=0) (i:=0) (t:=⟨#[]⟩) (A:=none) (n:=0) (c:=0) (A':=none) (n':=0) (c':=0) rfl rfl ⟨bf,bf,bf,bf,bf⟩) rfl ?_;refine⟨0,0,⟨#[]⟩,none,0,0,none,0,0,rfl,⟨_,_,_,_,_,_,_,_,_,rfl⟩,⟨wd.next,wd,h2.off BQ V V,(fun j a' h=>bX),(fun e h=>iM)⟩,?_⟩;exact oU):=h
def ll(h:P:=by
 go_loopw [3,17] (fun s3 s17 wr=>∃(j:Nat)(N':Int),s17=.int .i64 j/\j<=n/\s3=.int .i64 N'/\Ae (items.drop j) N'=R/\0<=N'/\Below w.heap.size w wr) (fun _ s17 _=>n-(intOf s17).toNat);case atStart=>exact⟨0,1,rfl,Nat.zero_le _,rfl,HR.out.symm,V,tm⟩
 case
  round=>
   obtain⟨j,N',rfl,hj,rfl,hdl,hN,vu⟩:=hrel;by_cases Ar:j<n
   ·obtain⟨g,p,x,k1,i1,t1,A1,n1,c1,A2,n2,c2,rfl,hg,hx,hix,e0,e1,e2,e3,e4⟩:=yZ hr hl hi Ar;have hgw:=hX g hg;have r0:=(vu.cell (p:=⟨g,p+j*5,none⟩) hgw).trans e0;have r1:=(vu.cell (p:=⟨g,p+j*5+1,none⟩) hgw).trans e1;have r2:=(vu.cell (p:=⟨g,p+j*5+2,none⟩) hgw).trans e2;have r3:=(vu.cell (p:=⟨g,p+j*5+3,none⟩) hgw).trans e3;have r4:=(vu.cell (p:=⟨g,p+j*5+4,none⟩) hgw).trans e4;have Em:j<items.length:=cM;have QE:items[j]=x:=fM;have hdm:=IF items 1 j Em;rw[QE,<-HR.out]at hdm;have hdg:=SJ x;have VC:items.drop j=x::items.drop (j+1):=by rw[List.drop_eq_getElem_cons Em,QE]
    rw[VC]at hdl;unfold Ae at hdl;have QD:SizeOf.sizeOf x<SizeOf.sizeOf items:=QE▸List.sizeOf_lt_of_mem (List.getElem_mem Em);simp only[J.mk.sizeOf_spec]at hj';have hrb:=vu.size;have hal2:=(Below.refl wr.heap.size wr).al (Nat.le_refl _) (jC k1 i1 t1 A1 n1 c1 A2 n2 c2);have hih:=ih x V V (wr.alloc (jC k1 i1 t1 A1 n1 c1 A2 n2 c2)) X k1 i1 t1 A1 n1 c1 A2 n2 c2 (hix.stay (vu.sV (Nat.le_refl _) hal2) hX) (fun b hb=>ey);have Qv:(j:Int)<(n:Int):=V;generalize tR x=D at*;have HDL:=Lib.hid hdl;clear hdl VC QE hx;go_wp2_with fail;refine hih.mono ?_;rintro e' w3 ⟨rfl,vX⟩;clear hih;have hwf:wrap64 (1+D)=1+D:=tG V V;have yq:=(vu.sV (Nat.le_refl _) hal2).sV bi vX;go_wp2_with fail;refine⟨⟨j+1,max N' (1+D),bi,V,rfl,HDL.out,V,yq⟩,?_⟩;exact bK
   ·obtain rfl:j=items.length:=cM;rw[List.drop_length]at hdl;unfold Ae at hdl;subst hdl;have hnl:items.length=n:=cM;subst hnl;exact bW):=h
def lm(h:P:=by exact oP):=h
def lp(h:P:=by
 refine aT ?_;obtain⟨s0,s1,s2,s3,s4,s5,rf⟩:=Rd.xa;refine rZ rfl rfl 0 (Nat.le_refl _) (fun Q1 sP=> ?_);go_wp2_with fail;refine sP _ _ (fun b hb=> ?_) ?_;·exact oO
 clear sP;refine aQ ?_;refine sI ?_;go_wp2_with fail;refine bodyPost_ret (wu rfl rfl rfl ((((((Rd.set 0 _).set 1 _).set 2 _).set 3 _).set 4 _).set 5 _)) rfl ?_;refine⟨_,_,_,_,_,_,_,_,_,_,_,_,rfl,?_⟩;exact oT):=h
def lq(h:P:=by
 have hgf:g<f:=V;by_cases he:E=0
 ·obtain⟨rfl,rfl⟩:=HOK.out he;subst he;clear HOK Cv;obtain⟨⟨p0,p1,p2,p3,p4,p5,p6,p7⟩,p8⟩:=Rx;obtain⟨⟨f0,f1,f2,f3,f4⟩,f5⟩:=Ze;have Rx:Ck w6 g A n c a 0 wd:=⟨⟨p0,p1,p2,p3,p4,p5,p6,p7⟩,p8⟩;have Ze:Js w6 f vk vn vt va N2:=⟨⟨f0,f1,f2,f3,f4⟩,f5⟩;go_upto_region 7 with fail;refine td (K:=uK (fun p=>p.block=g)) (uK.keeps _) (sk.of [0,1,2,3,4,5,6,7,8,9,10] .nil) [7,10] bg bg bC bg (fun _ _ d _ _ h=>bw) (fun wz hd hdz=> ?_);have RN:=Rx.below hd V;have WF7:=Ze.below hd V;have hb7:=xo.sV V hd;have hz7:f<wz.heap.size:=V;have Qt:g<wz.heap.size:=V;clear hd hdz Rx Ze p0 p1 p2 p3 p4 p5 p6 p7 p8 f0 f1 f2 f3 f4 f5;obtain⟨⟨p0,p1,p2,p3,p4,p5,p6,p7⟩,p8⟩:=RN;obtain⟨⟨f0,f1,f2,f3,f4⟩,f5⟩:=WF7;refine aq ?_;refine rZ rfl rfl (f+1) V (fun Q1 sP=> ?_);go_wp2_with fail;refine sP _ _ ?_ ?_;·exact bY
  clear sP;refine au ?_;refine rZ rfl rfl (f+1) V (fun Q1 sP=> ?_);go_wp2_with fail;refine sP _ _ ?_ ?_;·exact bY
  clear sP;refine sI ?_;go_wp2_with fail;go_ret;refine⟨rfl,⟨⟨bf,bf,bf,bf,bf,bf,bf,bf⟩,fun j=>il⟩,?_⟩;exact iG
 ·obtain⟨rfl,rfl,rfl⟩:=Cv.out he;have he':(E==0)=false:=beq_eq_false_iff_ne.2 he;clear HOK Cv;obtain⟨⟨p0,p1,p2,p3,p4,p5,p6,p7⟩,p8⟩:=Rx;go_wp2_with fail;go_ret;refine⟨rfl,⟨⟨bf,bf,bf,bf,bf,bf,bf,bf⟩,fun j=>il⟩,?_⟩;exact iF):=h
def lr(h:P:=by exact oO):=h
def lu(h:P:=by go_wp2_with fail;generalize(w.alloc (wZ))=w3 at*;refine(HN.out w3 BX3 W4 hr3).mono ?_;rintro e' w4 ⟨rfl,XW,hf4⟩;have hsz4:=hf4.size;have Fh:¬w.heap.size=g:=V;have hne':¬g=w.heap.size:=V;have FB:=vX.trans (hf4.below (B':=g) V (Nat.le_refl _));obtain⟨y0,y1,y2,y3,y4⟩:=hw0;have z0:=(hf4.cell (p:=⟨w.heap.size,0,none⟩) U4 Fh).trans y0;have f0:=(hf4.frozen (p:=⟨w.heap.size,0,none⟩) U4 Fh).trans (YP 0);have z1:=(hf4.cell (p:=⟨w.heap.size,1,none⟩) U4 Fh).trans y1;have f1:=(hf4.frozen (p:=⟨w.heap.size,1,none⟩) U4 Fh).trans (YP 1);have z2:=(hf4.cell (p:=⟨w.heap.size,2,none⟩) U4 Fh).trans y2;have f2:=(hf4.frozen (p:=⟨w.heap.size,2,none⟩) U4 Fh).trans (YP 2);have z3:=(hf4.cell (p:=⟨w.heap.size,3,none⟩) U4 Fh).trans y3;have f3:=(hf4.frozen (p:=⟨w.heap.size,3,none⟩) U4 Fh).trans (YP 3);have z4:=(hf4.cell (p:=⟨w.heap.size,4,none⟩) U4 Fh).trans y4;have f4:=(hf4.frozen (p:=⟨w.heap.size,4,none⟩) U4 Fh).trans (YP 4);obtain⟨⟨r0,r1,r2,r3⟩,k1,k2,k3⟩:=XW;clear y0 y1 y2 y3 y4 YP hf4 vX BX3 hr3 HN HX;go_wp2_with fail;rw[Exit.noGoto_ret];refine bodyPost_ret (EO (k:=9) (n:=rp) (t:=[]) (a:=0) (b:=0) rfl rfl ⟨bf,bf,bf,bf,bf⟩) rfl ⟨rfl,⟨⟨bf,bf,bf,bf⟩,bf,bf,bf⟩,?_⟩;exact pj):=h
def lw(h:P:=by rintro e' w7 ⟨rfl,⟨Q7,q7,r7,Q7',q7',r7',Ob7⟩,LI⟩;clear it6 Ob6;have JI:Below w2.heap.size w6 w7:=LI.below V (Nat.le_refl _);have R7:=R6.below JI V;have S7:=S6.below JI V;have O7:=O6.trans (sr.below (JI.mono V));have zz7:=JI.size;clear R6 S6 O6;clear LI JI;have hlenE:=Ob7.len;have NF:=Ob7.ZN (by rw[<-hlenE.1];simp[opt]) (by rw[<-hlenE.2];simp[opt]);have hHo:=Ob7.2.2.2.2.1;obtain⟨_,⟨⟨o0,o1,o2,o3,o4⟩,o5⟩,_,_,_,_⟩:=Ob7;obtain⟨⟨u0,u1,u2,u3,u4⟩,u5⟩:=R7;go_wp2_with fail;refine bodyPost_ret (uD (k:=6) (i:=0) (t:=⟨#[]⟩) (A:=Q7) (n:=q7) (c:=r7) (A':=Q7') (n':=q7') (c':=r7') rfl rfl ⟨bf,bf,bf,bf,bf⟩) rfl ?_;have AE:rS w.heap.size w7.heap.size w7 (((((w7.setCell ⟨w.heap.size,0,none⟩ (.int .i64 6)).setCell ⟨w.heap.size,1,none⟩ (.int .i64 0)).setCell ⟨w.heap.size,2,none⟩ (.string ⟨#[]⟩)).setCell ⟨w.heap.size,3,none⟩ (.slice Q7 q7 r7)).setCell ⟨w.heap.size,4,none⟩ (.slice Q7' q7' r7')):=(((((rS.refl _ _ _).setAt 0 _).setAt 1 _).setAt 2 _).setAt 3 _).setAt 4 _;have yq:Below w.heap.size w7 _:=AE.below V (Nat.le_refl _);rw[Ca.out];exact⟨6,0,⟨#[]⟩,Q7,q7,r7,Q7',q7',r7',rfl,NF.keep (fun q hq=>AE.cell hq.2 cQ) (fun b hb=>oW),S7.keep AE.size (fun b hb=>yq.block b V),O7.trans (sr.below yq)⟩):=h
def lx(h:P:=by repeat' (first|with_reducible exact Below.refl _ _|with_reducible assumption|with_reducible refine Below.alloc ?_ V _|with_reducible refine Below.setCell ?_ bd _)):=h
def ly(h:P:=by rw[show((depth+1:Nat):Int)=(depth:Int)+1 from V]at hcl;have HCL:=Lib.hid hcl;clear hcl;go_wp2_with fail;refine HCL.out.mono ?_;rintro e' w2 ⟨k,i,t,A1,n1,c1,A2,n2,c2,rfl,hio,⟨a8,v8,h8x,h8a,h8b⟩,hf2⟩;have hs2:=hf2.size;have JR2:=Xl.off hf2 V V;have LG:=Qx.trans (hf2.mono V);clear Xl Qx hf2 HCL;obtain⟨⟨u0,u1,u2,u3,u4⟩,u5⟩:=JR2;go_wp2_with fail;have BQ:rS w.heap.size w2.heap.size w2 (((((w2.setCell ⟨w.heap.size,0,none⟩ (.int .i64 k)).setCell ⟨w.heap.size,1,none⟩ (.int .i64 i)).setCell ⟨w.heap.size,2,none⟩ (.string t)).setCell ⟨w.heap.size,3,none⟩ (.slice A1 n1 c1)).setCell ⟨w.heap.size,4,none⟩ (.slice A2 n2 c2)):=(((((rS.refl _ _ _).setAt 0 _).setAt 1 _).setAt 2 _).setAt 3 _).setAt 4 _;refine bodyPost_ret (uD (k:=k) (i:=i) (t:=t) (A:=A1) (n:=n1) (c:=c1) (A':=A2) (n':=n2) (c':=c2) rfl rfl ⟨bf,bf,bf,bf,bf⟩) rfl ?_;refine⟨k,i,t,A1,n1,c1,A2,n2,c2,rfl,xc.keep hio (fun q hq=>BQ.cell hq.2 V) (fun b hb=>⟨V,by have:=BQ.size;omega⟩),⟨a8,v8,h8x.off BQ V V,h8a,h8b⟩,?_⟩;exact oU):=h
def lz(h:P:=by
 go_wp2_with fail;refine sP _ _ trivial ?_;clear sP;refine ai ?_;refine rZ rfl rfl 0 (Nat.le_refl _) (fun Q1 sP=> ?_);go_wp2_with fail;refine sP _ _ trivial ?_;clear sP;refine ai ?_;refine rZ rfl rfl 0 (Nat.le_refl _) (fun Q1 sP=> ?_);go_wp2_with fail;refine sP _ _ trivial ?_;clear sP;refine ai ?_;refine rZ rfl rfl 0 (Nat.le_refl _) (fun Q1 sP=> ?_);go_wp2_with fail;refine sP _ _ trivial ?_;clear sP;refine sI ?_;go_wp2_with fail;refine⟨⟨i+1,_,bi,by congr 1;omega,V,LG,kM,?_,yq⟩,?_⟩
 ·intro k hk;have h:=HY.out;have hi2:=h i V;have hj2:=h J V;rw[if_neg V,HX.out]at hi2;rw[if_neg V,Y4.out]at hj2;rw[List.getElem?_set,List.getElem?_set,List.length_set];by_cases e1:J=k;·subst e1;rw[if_pos rfl,if_pos V,if_pos V,show n-1-J=i from V,<-hi2]
  ·rw[if_neg e1];by_cases e2:i=k;·subst e2;rw[if_pos rfl,if_pos V,if_pos V,show n-1-i=J from V,<-hj2]
   ·rw[if_neg e2,h k hk];by_cases e3:k<i\/n<=k+i;·rw[if_pos e3,if_pos V]
    ·rw[if_neg e3,if_neg V]
 ·exact bK):=h
def lA(h:P:=by exact oT):=h
def lB(h:P:=by go_wp2_with fail;refine XI.mono ?_;rintro e' w3 ⟨rfl,vX⟩;have AZ:=vu.sV (Nat.le_refl _) vX;exact oQ):=h
def lC(h:P:=by
 clear sP;refine rZ rfl rfl 0 (Nat.le_refl _) (fun Q1 sP=> ?_);go_wp2_with(at_builtin;refine yF rfl rfl (D1.alloc _) rfl (rd_val we b _ rfl) V (by simp;omega) ?_;intro A5 c5 w5 JQ Fg);refine sP _ _ (Fg.mono (Nat.zero_le _)) ?_;clear sP;have FA:=((Below.refl base we).al V (.cells #[.int .u8 (b.toNat:Int)] 5)).trans Fg;have QA:base<=w5.heap.size:=by have:=FA.size;omega
 obtain⟨⟨q0,q1,q2,q3⟩,p1,p2,p3⟩:=wP.below ⟨⟨r0,r1,r2,r3⟩,k1,k2,k3⟩ FA (ND);have Dx:=FB.trans (rS.of FA);clear r0 r1 r2 r3 k1 k2 k3 Fg FA D1 FB;refine ai ?_;refine rZ rfl rfl 0 (Nat.le_refl _) (fun Q1 sP=> ?_);go_wp2_with fail;refine sP _ _ ((Below.refl _ _).setCell (Nat.zero_le _) _) ?_;clear sP;refine sI ?_;go_wp2_with fail;have Rx:wP (w5.setCell ⟨g,3,none⟩ (.slice A5 (m+1) c5)) g A n c ((a+1:Nat):Int) 0 A5 (m+1) c5:=⟨⟨bf,bf,bf,bf⟩,bf,bf,bf⟩;exact fU):=h
def lD(h:P:=by clear HFA key;go_wp2_with fail;refine hf.mono ?_;rintro e' w5 ⟨rfl,B5⟩;obtain⟨C5,O5,R5,Z5,hz5⟩:=Za.out w5 B5;clear hf Za B5 z0 z1 z2 z3 z4;have z1:=Z5.c 1 _ rfl;obtain⟨s0,s1,s2,s3,s4,s5,s6,s7,s8,s9,rf⟩:=R5.yk;have R6:=R5.set 7 (.int .i64 z.int);simp only[List.set_cons_zero,List.set_cons_succ]at R6;have O56:rS (w.heap.size+1) w5.heap.size w5 (w5.setCell ⟨w.heap.size+1,7,none⟩ (.int .i64 z.int)):=(rS.refl _ _ _).setAt 7 _;have O6:=O5.wM (p:=⟨w.heap.size+1,7,none⟩) bd (.int .i64 z.int);have S6:=a.off O6 (C5.keep O56.size (O56.block g V V));have K6:=a.ym O6;clear C5 O5 R5 Z5 O56;go_upto_region 5 with fail;generalize w5.setCell ⟨w.heap.size+1,7,none⟩ (.int .i64 z.int)=w6 at*;have hx6:=hx.kept K6;have hff:=yU {x with size:=z.int} A1 n1 c1 none 0 0 w6 g own L A n c S E2 S6 ⟨hx6.1,gT,hx6.2.1,Nat.le_refl _,hx6.2.2.1,V⟩ hx.2.2.2.1 hx.2.2.2.2.1;exact db):=h
def lE(h:P:=by rw[tS];have AE:rS (w.heap.size+1) UK.heap.size UK ((((((UK.setCell ⟨w.heap.size+1,0,none⟩ (.int .i64 6)).setCell ⟨w.heap.size+1,1,none⟩ (.int .i64 0)).setCell ⟨w.heap.size+1,2,none⟩ (.string ⟨#[]⟩)).setCell ⟨w.heap.size+1,3,none⟩ (.slice Y9 ZW Yg)).setCell ⟨w.heap.size+1,4,none⟩ (.slice Si TW TX))):=(((((rS.refl _ _ _).setAt 0 _).setAt 1 _).setAt 2 _).setAt 3 _).setAt 4 _;have yq:Below (w.heap.size+1) UK _:=AE.below V (Nat.le_refl _);exact⟨6,0,⟨#[]⟩,Y9,ZW,Yg,Si,TW,TX,rfl,NF.keep (fun q hq=>AE.cell hq.2 cQ) (fun b hb=>oW),S12.keep AE.size (fun b hb=>yq.block b V),O12.trans (sr.below (yq.mono V))⟩):=h
def lF(h:P:=by obtain⟨v0,v1,v2,v3,v4,v5,vf⟩:=V6.xa;go_wp2_with fail;refine bodyPost_ret (wu rfl rfl rfl ((((((V6.set 0 _).set 1 _).set 2 _).set 3 _).set 4 _).set 5 _)) rfl ?_;refine⟨_,_,_,_,_,_,_,_,_,_,_,_,rfl,vF (r:=w.heap.size+1) E6 ?_ V H3⟩;exact bm):=h
def lG(h:P:=by refine bodyPost_ret (AI (te:=.bool false) (k:=0) (i:=0) (t:=⟨#[]⟩) (A:=none) (n:=0) (c:=0) (A':=none) (n':=0) (c':=0) rfl rfl rfl ⟨bf,bf,bf,bf,bf⟩) rfl ?_;refine⟨0,0,⟨#[]⟩,none,0,0,none,0,0,rfl,uf.zero _ _,?_⟩;exact pc):=h
def lH(h:P:=by rintro e u' w'' ⟨rfl,rfl,rfl⟩;have Of:rS w.heap.size wf.heap.size wf ((wf.setCell ⟨w.heap.size,0,none⟩ (.slice none 0 0)).setCell ⟨w.heap.size,1,none⟩ (.int .i64 0)):=((rS.refl _ _ _).setAt 0 _).setAt 1 _;rw[ZH];exact⟨_,Ps rfl rfl rfl ((Sc.set 0 _).set 1 _) (Ec.off Of V V),Xo.nil w _ _ (yC Bc Of (Nat.le_refl _))⟩):=h
def lI(h:P:=by refine aI ?_;refine rZ rfl rfl we.heap.size V (fun Q1 sP=> ?_);go_wp2_with(with_reducible refine Dd rfl rfl LH.rd ?_);refine sP _ _ (Gh.below (Below.refl _ _) V) ?_;clear sP;refine rZ rfl rfl we.heap.size V (fun Q1 sP=> ?_);have hp6:=W1.below xo;go_wp2_with fail;refine(wj b base st _ w6 hp6 (by simp;omega)).mono ?_;rintro e' w7 ⟨rfl,XT,Qy,hf7⟩;go_wp2_with fail;refine sP _ _ (Gh.D9 hf7 Qy) ?_;clear sP;refine sI ?_;go_wp2_with fail;refine bodyPost_end (results_none rfl _ _ _) rfl ?_;exact⟨rfl,XT,(hoe.trans (rS.of (xo.mono V))).trans Qy,(hfe.trans (zG.below xo)).trans hf7⟩):=h
def lJ(h:P:=by subst he;rw[if_pos ⟨rfl,bi⟩]at h;subst h;exact bE):=h
def lK(h:P:=by refine aC ?_;refine rZ rfl rfl (w.heap.size+1) V (fun Q1 sP=> ?_);go_wp2_with fail;refine sP _ _ (uK.refl _ _ _) ?_;clear sP;refine aC ?_;refine rZ rfl rfl (w.heap.size+1) V (fun Q1 sP=> ?_);go_wp2_with fail;refine sP _ _ (uK.refl _ _ _) ?_;clear sP;refine aC ?_;refine sI ?_;exact bt):=h
def lL(h:P:=by
 obtain rfl:r=false:=by cases r;rfl;exact pn
 clear hi;subst h;exact bu):=h
def lM(h:P:=by have tS:=HR.out;rw[if_pos rfl]at tS;clear HR;subst tS;obtain⟨v0,v1,v2,v3,v4,v5,vf⟩:=V4.xa;go_wp2_with fail;refine bodyPost_ret (wu rfl rfl rfl ((((((V4.set 0 _).set 1 _).set 2 _).set 3 _).set 4 _).set 5 _)) rfl ?_;refine⟨_,_,_,_,_,_,_,_,_,_,_,_,rfl,vF (r:=w.heap.size+1) E4 ?_ V H3⟩;exact bm):=h
def lN(h:P:=by rw[<-HR.out]at Td;clear HR B4 r4 VH YJ;refine aQ ?_;refine rZ rfl rfl 0 (Nat.le_refl _) (fun Q1 sP=> ?_);go_wp2_with fail;refine Td.mono ?_;rintro e' w5 ⟨tI,A',n',c',rfl,S5,K5⟩;clear Td;go_wp2_with fail;refine sP _ _ (Kb.ym (fun b hb=>⟨V,V,fun q e=>ic⟩) K5) ?_;exact dD):=h
def lO(h:P:=by exact oU):=h
def lP(h:P:=by obtain⟨a8,v8,h8,h9⟩:=NJ;exact⟨a8,v8,h8.off zC V V,h9⟩):=h
def lQ(h:P:=by obtain⟨v0,v1,v2,v3,v4,v5,vf⟩:=V8.xa;go_wp2_with fail;refine bodyPost_ret (wu rfl rfl rfl ((((((V8.set 0 _).set 1 _).set 2 _).set 3 _).set 4 _).set 5 _)) rfl ?_;refine⟨_,_,_,_,_,_,_,_,_,_,_,_,rfl,vF (r:=w.heap.size+1) E8 ?_ V H3⟩;exact bm):=h
def lR(h:P:=by obtain rfl:R= -1:=pw;have Qv:¬(j:Int)<(n:Int):=V;clear HK;exact bW):=h
def lS(h:P:=by refine⟨⟨j+1,A3,m+2,c3,bi,V,rfl,Eo,yq,QD,Qt⟩,?_⟩;exact bK):=h
def lT(h:P:=by obtain⟨a8,v8,h8,h9⟩:=D3;exact⟨a8,v8,h8.below xo V,h9⟩):=h
def lU(h:P:=by obtain⟨a8,v8,h8,h9⟩:=RH;exact⟨a8,v8,h8.below tm V,h9⟩):=h
def lV(h:P:=by cases r;rfl;exact pn):=h
def lW(h:P:=by exact oW):=h
def lX(h:P:=by exact pc):=h
def lY(h:P:=by exact Nat.le_trans (TM _ _ _ _ _ _ _ _) V):=h
def lZ(h:P:=by
 clear hi;have e1:((a:Int)==224)=false:=by simp;omega
 have e2:((a:Int)==237)=false:=by simp;omega
 have e3:((a:Int)==240)=false:=by simp;omega
 have e4:((a:Int)==244)=false:=by simp;omega
 clear h1 h2 h3 h4;exact bu):=h
def l6(h:P:=by rcases(show k=0\/k=1\/k=2\/k=3\/k=4\/k=5\/k=6\/k=7\/k=8\/k=9\/k=10\/k=11\/k=12\/k=13\/k=14\/k=15\/k=16\/k=17\/k=18\/k=19\/k=20\/k=21\/k=22\/k=23\/k=24\/k=25\/k=26\/k=27\/k=28\/k=29\/k=30\/k=31 from V)with rfl|rfl|rfl|rfl|rfl|rfl|rfl|rfl|rfl|rfl|rfl|rfl|rfl|rfl|rfl|rfl|rfl|rfl|rfl|rfl|rfl|rfl|rfl|rfl|rfl|rfl|rfl|rfl|rfl|rfl|rfl|rfl;all_goals kernel_rfl):=h
def l7(h:P:=by unfold pk;rw[List.getD,List.getElem?_eq_none V];rfl):=h
def l8(h:P:=by
 rintro e' w7 ⟨rfl,XT,Qy,hf7⟩;go_wp2_with fail;refine sP _ _ (Gh.D9 hf7 Qy) ?_;clear sP;refine sI ?_;go_wp2_with fail;first|refine bodyPost_end (results_none rfl _ _ _) rfl ?_|refine bodyPost_ret (results_none rfl _ _ _) rfl ?_
 exact⟨rfl,by rw[HH.out];exact XT,(hoe.trans (rS.of (DV.mono V))).trans Qy,(hfe.trans (zG.below DV)).trans hf7⟩):=h
def l9(h:P:=by injection h with h;injection h with h1 h2;subst h2;exact⟨rfl,V⟩):=h
def ma(h:P:=by go_enter Tryz.func245,Tryz.ntmps245;go_wp2_with fail;refine(Sw u V _).mono ?_;rintro e w' ⟨rfl,rfl⟩;rw[HN.out];go_wp2_with fail;refine(wj w.heap.size u digits _ bi bi h1 h0 hd).mono ?_;rintro e w2 ⟨rfl,rfl⟩;go_wp2_with fail;go_ret;rw[HMG.out];exact⟨AH V,(Below.refl _ _).alloc (Nat.le_refl _) _⟩):=h
def mb(h:P:=by exact pn):=h
def mc(h:P:=by
 have Ca:=Lib.hid hR;clear hR HR;have HR:=Ca;clear Ca;go_upto_region 2 with fail;go_wp2_with fail;refine En.mono ?_;rintro e' w3 ⟨rfl,rfl⟩;clear En;go_upto_region 16 with fail;cases B3
 ·cases B4
  ·cases B5
   ·cases B6;·exact po
    ·exact bo
   ·exact bo
  ·exact bo
 ·exact bo):=h
def md(h:P:=by rw[if_neg V,if_neg V,if_neg V]):=h
def me(h:P:=by clear hbW x0 x1 x2 x3 x4;have hbW:=hB6.c0;obtain⟨x0,x1,x2,x3,x4⟩:=hE6.at_;go_wp2_with fail;refine(hN x hxs hxw _ b base _ X k1 i1 t1 A1 n1 c1 A2 n2 c2 Zz hX hp6).mono ?_;rintro e' w7 ⟨rfl,XT,Qy,hf7⟩;have hoz:=ZD.trans Qy;have hfz:=Zu.trans hf7;exact pb):=h
def mg(h:P:=by exact Nat.le_trans (TN _ _ _ _ _ _ _ _ _ _) V):=h
def mh(h:P:=by go_wp2_with(at_builtin;go_must(refine yF rfl rfl (YS.alloc _) rfl (rd_val wr b8 _ (by rw[W7])) V (by simp;omega) ?_);intro A4 c4 w4 D1 DV);refine⟨⟨f,u/10,A4,k3+1,c4,ds++[b8],bi,rfl,D1,Vg.out,hu2,V,V,vu.trans (tm.trans DV)⟩,?_⟩;exact bK):=h
def mi(h:P:=by go_wp2_with fail;refine⟨⟨j+1,bi,V,hS9,OT.trans (sr.ES 3 _)⟩,?_⟩;exact bK):=h
def mj(h:P:=by rw[BV]at tS;generalize(items.any fun x=> !tT x (d+1))=KA at*;have vL:=Lib.hid tS;have HCF:=Lib.hid hcf;clear tS hcf;go_wp2_with fail;refine HCF.out.mono ?_;rintro e' w5 ⟨rfl,Fg⟩;clear HCF;have RD:=U6.sV V Fg;go_wp2_with fail;go_ret;exact⟨kH,RD⟩):=h
def mn(h:P:=by exact po):=h
def mo(h:P:=by clear hx VK h1 h2 hP;have hgr:=XJ g hg;have hgr':=XJ g' hg';go_wp2_with fail;refine AD.mono ?_;rintro e' w3 ⟨rfl,vX⟩;clear AD;have AZ:=DU.trans (vX.mono (B':=w.heap.size) (by simp;omega));go_wp2_with fail;refine⟨⟨j+1,bi,V,AZ⟩,?_⟩;exact bK):=h
def mq(h:P:=by exact pb):=h
def mu(h:P:=by clear sP;refine ai ?_;refine sI ?_;go_wp2_with fail;refine bodyPost_ret (wu rfl rfl rfl ((((((Vd.set 0 _).set 1 _).set 2 _).set 3 _).set 4 _).set 5 _)) rfl ?_;refine⟨_,_,_,_,_,_,_,_,_,_,_,_,rfl,vF (r:=w.heap.size+1) Ed ?_ V H3⟩;exact bm):=h
def mw(h:P:=by go_enter Tryz.func220,Tryz.ntmps220;go_wp2;go_ret2;exact bH):=h
def mx(h:P:=by go_wp2_with fail;refine bodyPost_ret (wu rfl rfl rfl ((((((V6.set 0 _).set 1 _).set 2 _).set 3 _).set 4 _).set 5 _)) rfl ?_;refine⟨_,_,_,_,_,_,_,_,_,_,_,_,rfl,?_⟩;repeat' (first|with_reducible exact B6|with_reducible refine Below.setCell ?_ bd _)):=h
def my(h:P:=by clear hi;go_enter Tryz.func246,Tryz.ntmps246;go_wp2;go_ret;exact bH):=h
def mz(h:P:=by go_wp2;go_ret;exact bH):=h
def mA(h:P:=by rw[List.getElem_append_left hlt,List.getElem_append_left V];exact hW.keep (h4 j hlt V) (fun q hq=>World.cell?_of_block (w:=w) (hold q.block hq.2.1 hq.2.2.1)) (fun b hb=>⟨hb.1,V,hA2 b hb.2.1 hb.2.2.1,hb.2.2.2⟩)):=h
def mB(h:P:=by rename_i h;have:=key _ h;simp only[List.length_cons,List.length_nil]at this|-;exact⟨V,fun _=>V⟩):=h
def mC(h:P:=by rw[decide_eq_false (show¬(20:Int)<=(d:Int)from V),decide_eq_false (show¬1000<xh+1 from V)];rfl):=h
def mD(h:P:=by injection h with h _;subst h;exact⟨bD,bD⟩):=h
def mE(h:P:=by refine⟨_,hw,bi,bi,fun f hf=> ?_⟩;exact cJ):=h
def mF(h:P:=by intro w' hb;have z0:=(hb.cell ⟨g,0,none⟩ bd (by simp)).trans RN.out.1.1;have z1:=(hb.cell ⟨g,1,none⟩ bd (by simp)).trans RN.out.1.2.1;clear hb;exact oZ):=h
def mG(h:P:=by rw[h]at e;injection e with e;injection e with _ e _;exact absurd e bD):=h
def mH(h:P:=by intro w' hb;have y0:=(hb.cell (p:=⟨w.heap.size,0,none⟩) bd).trans d0;have y1:=(hb.cell (p:=⟨w.heap.size,1,none⟩) bd).trans d1;clear hb;exact oZ):=h
def mI(h:P:=by go_enter Tryz.func198,Tryz.ntmps198;go_wp2;refine bodyPost_end (results_none rfl _ _ _) rfl ?_;exact⟨rfl,⟨⟨bf,bf,bf,bf⟩,bf,bf,bf⟩,ex⟩):=h
def mJ(h:P:=by go_enter Tryz.func240,Tryz.ntmps240;go_wp2;go_ret2;exact bH):=h
def mK(h:P:=by go_enter Tryz.func151,Tryz.ntmps151;go_wp2_with fail;refine hc.mono ?_;rintro e w1 ⟨rfl,rfl⟩;clear hc;go_wp2_with fail;go_ret;exact⟨by simp[Kn];try(rw[List.take_of_length_le V]),rfl⟩):=h
def mL(h:P:=by clear hi;subst h;exact bu):=h
def mM(h:P:=by rw[hH];exact⟨rfl,rfl,rfl,Nat.le_trans (Pn _ fun r h=>Ea h) bD⟩):=h
def mN(h:P:=by have hd:=Y2.out;rw[hP,Bool.true_and]at hd;have HD3:=Lib.hid hd;clear hd Y2;go_wp2_with fail;refine⟨⟨j+1,A7,c7,bi,V,rfl,hi9,HD3.out,XM⟩,?_⟩;exact bK):=h
def mO(h:P:=by obtain rfl:RR=false:=ec;exact bJ):=h
def mP(h:P:=by go_wp2_with fail;refine IT.mono ?_;rintro e' w5 ⟨rfl,Fg⟩;clear IT;have AZ:=Tb.sV V Fg;exact px):=h
def mQ(h:P:=by have:=hr.len;exact cN):=h
def mR(h:P:=by clear u0 u1 u2 u3 u4 u5 I3 z3' S3 HQ;go_wp2_with fail;refine⟨⟨jj+1,acc++[rf.1],rf.2,RJ,Bi,ei,bi,V,hq9,hm',HKR.out,J4,I4,S4,z4'⟩,?_⟩;exact bK):=h
def mS(h:P:=by go_wp2_with fail;refine⟨?_,dG⟩;first|exact⟨14,by simp,V,Az.out⟩|exact⟨_,_,_,_,⟨14,rfl,V,Az.out⟩,rfl,rfl,rfl,rfl⟩):=h
def mT(h:P:=by go_wp2_with fail;refine⟨?_,dG⟩;first|exact⟨1,by simp,V,Az.out⟩|exact⟨_,_,_,_,⟨1,rfl,V,Az.out⟩,rfl,rfl,rfl,rfl⟩):=h
def mU(h:P:=by rw[HV.out];rfl):=h
def mV(h:P:=by intro w' hb;obtain⟨⟨z0,z1,z2,z3⟩,_,_,_⟩:=wP.below KC.out hb V;clear hb;exact oZ):=h
def mW(h:P:=by go_wp2_with fail;refine hq.mono ?_;rintro e' w3 ⟨rfl,vX⟩;clear hq;go_wp2_with fail;go_ret;exact⟨rfl,tm.trans (vX.mono V)⟩):=h
def mX(h:P:=by go_wp2_with fail;refine AD.mono ?_;rintro e' w3 ⟨rfl,vX⟩;clear AD;go_wp2_with fail;go_ret;exact⟨rfl,NA.sV V vX⟩):=h
def mY(h:P:=by go_wp2_with fail;refine HIH.out.mono ?_;rintro e' w2 ⟨rfl,DU⟩;clear HIH;go_wp2_with fail;go_ret;exact⟨rfl,tm.sV V DU⟩):=h
def mZ(h:P:=by go_wp2_with(at_builtin;go_must(refine sS rfl rfl hom rfl JQ.rd V V ?_);intro A6 c6 w6 LH xo hg6);exact fc):=h
def na(h:P:=by go_wp2_with fail;refine hf.mono ?_;rintro e w1 ⟨rfl,hb⟩;clear hf;cases F;all_goals go_wp2_with fail;go_ret2;exact⟨rfl,hb⟩):=h
def nb(h:P:=by exact⟨_,rfl,fun j h=>bX⟩):=h
def nc(h:P:=by rw[hu];exact⟨(Bm _).2 V,V,rfl,rfl⟩):=h
def ng(h:P:=by first|rfl|trivial):=h
def nh(h:P:=by
 unfold GD;rw[List.length_append];split;·rename_i h0;rw[List.eq_nil_of_length_eq_zero h0];simp
 ·exact ez):=h
def ni(h:P:=by intro X hX;rw[hX,wrap_u64,show((2:Int)^digits)=((2^digits:Nat):Int)from bi,<-Int.natCast_mul];omega):=h
def nj(h:P:=by subst hg;exact⟨⟨bf,bf,bf,bf,bf⟩,fun j=>bf⟩):=h
def nk(h:P:=by repeat' (first|with_reducible exact Zq.mono V|with_reducible refine Below.setCell ?_ bd _)):=h
def nl(h:P:=by go_enter Tryz.func65,Tryz.ntmps65;exact bE):=h
def np(h:P:=by
 unfold ti at this;rw[if_neg V,if_pos Qw]at this;cases this with
 |cons h1 h2=>cases h2;exact h1):=h
def nq(h:P:=by exact⟨a2,v,HP.out.off BQ V V,(fun j a' h=>bX),(fun e' h=>iw)⟩):=h
def ns(h:P:=by simp only[List.length_cons,List.length_nil];omega):=h
def nt(h:P:=by exact⟨Int.le_refl _,bd,fun h=>bX⟩):=h
def nu(h:P:=by
 by_cases Zm:w.kind=11;·exact .inl ⟨Zm,V⟩
 ·have:=hi.2.2 Zm;exact .inr V):=h
def nv(h:P:=by intro e;subst e;first|(exact absurd h1 bD)|(exact absurd h2 bD)):=h
def nw(h:P:=by go_wp2_with fail;refine RE.mono ?_;rintro e' w4 ⟨C4,c4,rfl,D1,DV,MI⟩;clear RE;exact cW):=h
def nB(h:P:=by go_wp2_with fail;rw[Exit.noGoto_ret];go_ret2;exact⟨none,0,0,rfl,(fun m h=>bX),vu⟩):=h
def nD(h:P:=by repeat' (first|with_reducible exact yq|with_reducible refine Below.setCell ?_ bd _)):=h
def nE(h:P:=by unfold ti at this;rw[if_neg V,if_neg V,if_pos H6]at this;exact this):=h
def nF(h:P:=by refine⟨⟨j+1,A3,m+1,c3,bi,V,rfl,Eo,yq,QD,Qt⟩,?_⟩;exact bK):=h
def nG(h:P:=by exact⟨fun e h=>by injection h with h;subst h;simp[Dh,DE],fun wc h=>bX⟩):=h
def nH(h:P:=by go_wp2_with fail;go_ret;exact⟨rfl,Bj⟩):=h
def nI(h:P:=by intro i hij;rw[List.getElem?_set,if_neg V];exact h.rest i V):=h
def nJ(h:P:=by intro k hk;rw[List.getElem?_set,if_neg V];exact hc.rest k V):=h
def nK(h:P:=by rw[if_neg V]):=h
def nM(h:P:=by go_wp2_with fail;go_ret;exact⟨C4,c4,rfl,D1,BX.trans DV,GX.trans MI⟩):=h
def nN(h:P:=by rw[if_neg hj]at e;have:=h.ER j b e;have:=hg.1;exact⟨V,V⟩):=h
def nO(h:P:=by have h:=(Row.wK f1 f2 V).len;rw[f3]at h;exact h.symm.trans hfl):=h
def nP(h:P:=by have:=h.len;exact cN):=h
def nQ(h:P:=by exact⟨V,Fh _ V⟩):=h
def nR(h:P:=by rw[List.getElem?_eq_none V,List.getElem?_eq_none (by simp;omega)]):=h
def nT(h:P:=by exact .ok (Nat.le_refl _) hw (Db _ _ _ bi G1.2.1 G1.2.2)):=h
def nU(h:P:=by subst Em;exact hy.wpOp hi (hS1 _ _ hv hS hRw) ⟨⟨fO,hRw⟩,H⟩):=h
def nV(h:P:=by obtain rfl:RR=false:=gj;exact bJ):=h
def nW(h:P:=by exact⟨rfl,Below.refl _ _⟩):=h
def nX(h:P:=by obtain rfl:RR=true:=ec;exact bJ):=h
def nY(h:P:=by rcases hb with h|h;exact .inl h;exact .inr V):=h
def nZ(h:P:=by subst e1;exact h1.keep (fun _ _=>rfl) (fun b hb=>⟨eo,hb.2⟩)):=h
def n7(h:P:=by go_simp):=h
def oa(h:P:=by simp only at this;omega):=h
def ob(h:P:=by exact⟨dH,dH,dH,dH,dH⟩):=h
def od(h:P:=by go_enter_d Tryz.func24,Tryz.ntmps24;go_wp2_with fail;go_end0;exact bH):=h
def oe(h:P:=by have:=uQ ho hb;exact⟨V,this.2⟩):=h
def og(h:P:=by
 obtain rfl:R=0:=by rw[HR.out,if_neg V]
 clear HR;exact bL):=h
def oh(h:P:=by unfold BL Au opt;cases tq x.aliases<;>cases x.has<;>rfl):=h
def ol(h:P:=by exact Nat.le_trans (TO _ _ _ _ _ _ _ _ _ _ _ _) V):=h
def om(h:P:=by go_wp2_with fail;go_ret;exact⟨tI,A',n',c',rfl,S4,K2.trans K4⟩):=h
def oo(h:P:=by intro e;rw[e]at hpk;exact absurd hpk bD):=h
def oq(h:P:=by rw[hm,if_neg bi,hd,if_pos rfl];exact iJ):=h
def ot(h:P:=by have:=(List.getElem?_eq_some_iff.1 hy).1;exact gR):=h
def ou(h:P:=by unfold Ba at h;exact eR):=h
def ow(h:P:=by exact((if_neg V).trans (h.out _ V)).symm):=h
def ox(h:P:=by exact⟨V,hn1 _ V (Fh _ V)⟩):=h
def oy(h:P:=by rw[List.getElem_append_right V];simp):=h
def oA(h:P:=by rw[vI,if_neg eU,vI,if_pos (by left;omega)]):=h
def oB(h:P:=by go_wp2_with fail;rw[HU.out];go_ret3;exact⟨bi,rfl⟩):=h
def oC(h:P:=by subst Em;exact hy.wpOp hi (hS1 _ _ hv hS) ⟨fO,H⟩):=h
def oD(h:P:=by have:=hX b hb;exact cY):=h
def oE(h:P:=by have:=Qs b h;exact dE):=h
def oF(h:P:=by have:=WZ.len;exact cN):=h
def oG(h:P:=by unfold H7;rw[Bh _ _ _ hlen];exact gE):=h
def oH(h:P:=by
 have Ca:=Lib.hid hR;clear hR;refine aS ?_;obtain⟨s0,s1,s2,s3,s4,s5,rf⟩:=Rd.xa;refine rZ rfl rfl 0 (Nat.le_refl _) (fun Q1 sP=> ?_);go_wp2_with fail;refine sP _ _ (fun b hb=> ?_) ?_;·exact ld
 clear sP;refine aQ ?_;refine sI ?_;go_wp2_with fail;refine bodyPost_ret (wu rfl rfl rfl ((((((Rd.set 0 _).set 1 _).set 2 _).set 3 _).set 4 _).set 5 _)) rfl ?_;refine⟨_,_,_,_,_,_,_,_,_,_,_,_,kG,?_⟩;exact lA):=h
def oI(h:P:=by
 rw[OU]at yr;rw[if_neg bi,if_neg bi]at yr;have HCH:=Lib.hid OU;clear OU;refine yr.mono ?_;rintro e' w6 ⟨A6,m6,c6,rfl,LH,xo⟩;have hx6:=KC.out.below xo (ND);have W5:base<=w6.heap.size:=dJ;have GZ:=Dx.trans (rS.of xo);clear r0 r1 r2 r3 k1 k2 k3 JQ Dx xo QA Ik KC yr;go_wp2_with fail;refine(uy g A A' n c m d (a2:Int) 0 20 w6 hx6 V).mono ?_;rintro e' w7 ⟨rfl,JS,hf7⟩;rw[if_pos rfl]at JS;have Qy:=LH.off hf7 (ND);have zl:=GZ.trans (hf7.mono V);clear hx6 LH GZ hf7;obtain⟨⟨r0,r1,r2,r3⟩,k1,k2,k3⟩:=JS;go_wp2_with fail;refine bodyPost_end (results_none rfl _ _ _) rfl ?_;refine⟨rfl,A6,m6,c6,?_,?_,zl.setAt _ _⟩;·rw[HEE.out,HCH.out,if_neg bi];exact lm
 ·rw[Y4.out,HCH.out,if_neg bi];exact iX):=h
def oJ(h:P:=by rw[if_pos Zn]at tS;injection tS with tS;subst tS;have Zs:((depth:Int)==32)=true:=beq_iff_eq.2 V;clear Zn;go_enter Tryz.func51,Tryz.ntmps51;go_upto_region 1 with fail;have tm:=(Below.refl w.heap.size w).al (Nat.le_refl _) (jZ);have FK:=HX.out.below tm hg;have Xl:=vC.new w 0 0 ⟨#[]⟩ none 0 0 none 0 0 w.heap.size rfl;have ZG:=hr.tw tm V;have YT:w.heap.size<(w.alloc (jZ)).heap.size:=bi;have Qx:rS g w.heap.size w (w.alloc (jZ)):=rS.of tm;clear tm p0 p1 p2 p3 p4 p5 p6 p7 p8;generalize w.alloc (jZ)=w1 at*;go_wp2_with fail;refine(vD g A n c wd.next 0 21 wd w1 FK).mono ?_;exact lg):=h
def oK(h:P:=by clear hsu;go_wp2_with fail;refine su [0,1,2,3,4,5,6,7,8,9,10,11,12,13,14,15,16,17,18] [16,17] bg bg bi bg (fun _ _ d _ _ h=>bw) (fun wd hd sW=> ?_);have KC:=Lib.hid (wP.below XW hd V);have JQ:=D1.below (hd.mono (Nat.le_refl _));have Dx:=FB.trans (rS.of (hd.mono V));have QA:base<=wd.heap.size:=V;clear hd sW XW D1 FB ZI hr4;refine ah ?_;refine sn ?_;obtain⟨⟨r0,r1,r2,r3⟩,k1,k2,k3⟩:=KC.out;have Ik:base<=wd.heap.size:=QA;have yr:=FZ A' m d base N1 ts V V wd JQ Ik hm;exact kZ):=h
def oL(h:P:=by
 rw[OU]at yr;rw[if_pos rfl,if_pos rfl]at yr;have HCH:=Lib.hid OU;clear OU;refine yr.mono ?_;rintro e' w6 ⟨A6,m6,c6,rfl,LH,xo⟩;have hx6:=KC.out.below xo (ND);have W5:base<=w6.heap.size:=dJ;have GZ:=Dx.trans (rS.of xo);clear r0 r1 r2 r3 k1 k2 k3 JQ Dx xo QA Ik KC yr;obtain⟨⟨r0,r1,r2,r3⟩,k1,k2,k3⟩:=hx6;go_wp2_with fail;refine bodyPost_end (results_none rfl _ _ _) rfl ?_;refine⟨rfl,A6,m6,c6,?_,?_,GZ.setAt _ _⟩;·rw[HEE.out,HCH.out,if_pos rfl];exact pz
 ·exact dL):=h
def oM(h:P:=by
 have VN:∀b,(b=o\/b=w.heap.size)->b<z3.heap.size:=fun b hb=>by have:=NG b hb;omega
 have XU:∀b,b=B1->b<z3.heap.size:=fun b hb=>by have:=NI b hb;omega
 have wm3:w.heap.size<z3.heap.size:=V;refine aK ?_;refine zc rfl rfl 0 (Nat.le_refl _) (fun Q1 sP=> ?_);have xi:=x3.keep (w':=z3) (Y:=fun b=>(S b\/H<=b)/\b<z3.heap.size/\A.map (·.block)≠some b/\¬Bk.map (·.block)=some b) (fun _ _=>rfl) (fun b hb=>⟨(Qr b hb).1,by have:=Zo b hb;omega,(Qr b hb).2.2.1,nk3 b hb⟩);exact kV):=h
def oN(h:P:=by
 have O5:∀x0 x1 x2 x3 x4 x5,rS (w.heap.size+1) wd.heap.size wd ((((((wd.setCell ⟨w.heap.size+1,0,none⟩ x0).setCell ⟨w.heap.size+1,1,none⟩ x1).setCell ⟨w.heap.size+1,2,none⟩ x2).setCell ⟨w.heap.size+1,3,none⟩ x3).setCell ⟨w.heap.size+1,4,none⟩ x4).setCell ⟨w.heap.size+1,5,none⟩ x5):=fun x0 x1 x2 x3 x4 x5=>bm
 exact(O5 _ _ _ _ _ _).block b V V):=h
def oO(h:P:=by
 have O5:∀x0 x1 x2 x3 x4 x5,rS (w.heap.size+2) wd.heap.size wd ((((((wd.setCell ⟨w.heap.size+2,0,none⟩ x0).setCell ⟨w.heap.size+2,1,none⟩ x1).setCell ⟨w.heap.size+2,2,none⟩ x2).setCell ⟨w.heap.size+2,3,none⟩ x3).setCell ⟨w.heap.size+2,4,none⟩ x4).setCell ⟨w.heap.size+2,5,none⟩ x5):=fun x0 x1 x2 x3 x4 x5=>bm
 exact(O5 _ _ _ _ _ _).block b V V):=h
def oP(h:P:=by exact pz):=h
def oQ(h:P:=by
 clear XI;cases hpx:p x;·have hk:=HD.out;rw[IV hpx]at hk;have HK:=Lib.hid hk;clear hk HD hpx;go_wp2_with fail;refine⟨⟨j+1,bi,V,HK.out,AZ⟩,?_⟩;exact bK
 ·obtain rfl:R=(j:Int):=gh;clear HD hpx;exact bR):=h
def oR(h:P:=by exact⟨6,0,⟨#[]⟩,Q9,q9,r9,YL,YV,YW,rfl,NF.keep (fun q hq=>AE.cell hq.2 cQ) (fun b hb=>lW),S9.keep AE.size (fun b hb=>yq.block b V),O9.trans (sr.below (yq.mono V))⟩):=h
def oS(h:P:=by
 have hzd:=hd.size;clear hd sW;obtain⟨v0,v1,v2,v3,v4,v5,vf⟩:=Vd.xa;refine aV ?_;refine M7 rfl (fun Q1 sP=> ?_);go_wp2_with fail;refine sP _ _ (fun b hb=> ?_) ?_;·exact ld
 exact mu):=h
def oT(h:P:=by repeat' (first|with_reducible exact Bj|with_reducible refine Below.setCell ?_ bd _)):=h
def oU(h:P:=by repeat' (first|with_reducible exact LG|with_reducible refine rS.wM ?_ bd _)):=h
def oV(h:P:=by rw[show((a+1:Nat):Int)=(a:Int)+1 from V];exact lm):=h
def oW(h:P:=by rcases hb.1 with h|h;exact .inl h;exact .inr ⟨V,dt⟩):=h
def oX(h:P:=by clear ZJ;go_upto_region 6 with fail;clear b0 b1 b2 b3 b4 b5 b6 b7 b8 b9 bz cc2 cc3 cz yh;generalize w2.setCell ⟨g,3,none⟩ (.bool false)=w4 at*;exact kW):=h
def oY(h:P:=by clear ZJ;go_upto_region 6 with fail;clear b0 b1 b2 b3 b4 b5 b6 b7 b8 b9 bz cc2 cc3 cz yh;generalize w2.setCell ⟨g,3,none⟩ (.bool true)=w4 at*;exact kW):=h
def oZ(h:P:=by go_simp;first|done|with_reducible rfl):=h
def o6(h:P:=by obtain rfl:r=true:=hi.2 V;exact mL):=h
def o7(h:P:=by have HD:=Lib.hid (VC▸HK.out);clear VC HK DZ hr hP;exact lB):=h
def o8(h:P:=by go_enter Tryz.func247,Tryz.ntmps247;exact mz):=h
def o9(h:P:=by go_enter Tryz.func248,Tryz.ntmps248;exact mz):=h
def pb(h:P:=by go_wp2_with fail;refine⟨⟨j+1,_,bi,V,XT,Vg.out,hoz,hfz⟩,?_⟩;exact bK):=h
def pc(h:P:=by repeat' (first|with_reducible exact tm|with_reducible refine Below.setCell ?_ bd _)):=h
def pd(h:P:=by unfold ti;exact md):=h
def pe(h:P:=by have J2:=J3.off O2 V V;have R2:=R3.off O2 V V;exact la):=h
def pg(h:P:=by
 cases B6
 ·cases B7;·exact mn
  ·exact bo
 ·exact bo):=h
def ph(h:P:=by clear HF hv S2;go_wp2_with fail;refine(VQ _).mono ?_;rintro e' w9 ⟨rfl,rfl⟩;clear VQ;exact mi):=h
def pi(h:P:=by
 obtain rfl:b=false:=by cases b;rfl;exact mb
 exact my):=h
def pj(h:P:=by repeat' (first|with_reducible assumption|with_reducible refine Below.setCell ?_ bd _)):=h
def pl(h:P:=by have:16^j<=16^3:=Nat.pow_le_pow_right V V;omega):=h
def pm(h:P:=by go_enter Tryz.func68,Tryz.ntmps68;exact mz):=h
def pn(h:P:=by exact absurd (hi.1 rfl) V):=h
def po(h:P:=by
 cases B8;·obtain rfl:R=true:=dh;exact bq
 ·exact bo):=h
def pq(h:P:=by rw[show((b+1:Nat):Int)=(b:Int)+1 from V];exact lm):=h
def pt(h:P:=by exact absurd (show(0:UInt8)=117 by rw[<-hu];exact l7) bD):=h
def pu(h:P:=by unfold sf at hN;simp at hN;unfold ti;exact md):=h
def pw(h:P:=by rw[HK.out,List.drop_eq_nil_of_le cK];rfl):=h
def px(h:P:=by
 obtain rfl:RR=EV:=by rw[vL.out];try simp
 clear vL;exact bR):=h
def pz(h:P:=by exact⟨⟨bf,bf,bf,bf⟩,bf,bf,bf⟩):=h
