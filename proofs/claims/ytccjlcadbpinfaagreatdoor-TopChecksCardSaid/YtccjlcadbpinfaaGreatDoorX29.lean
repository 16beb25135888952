/- A registry takes a schema behind another one, by each mode, just if the one reads what the other one writes, as the mode has it: the law TopChecks answers true at every two schemas and every mode. (Its own guards pass over schemas that are alike, have no text, or are too great.) No condition beyond the given card. -/
import Derived.Test.YtccjlcadbpinfaaGreatDoorX28
import Derived.Test.YtccjlcadbpinfaaGreatDoorCards
import Derived.Test.YtccjlcadbpinfaaGreatDoorTie
import Derived.Deep.DeepHandedRow
import Derived.Lib.LaidTab
import Derived.WideKeyArgs
import Derived.Shelf.Vars
set_option linter.all false
set_option maxRecDepth 100000
namespace Go.Proofs.YtccjlcadbpinfaaGreatDoor.topChecks
open ChangeShapes WideShapes ChangeAt RowKit
theorem own:ownKnob Tryz.prog.godebug=none:=bm
theorem laidOut:laidOutB Tryz.prog=true:=bm
theorem abF:Tryz.prog.globalNamed "avocet/naming.words" =some 0:=bm
theorem Un:(Tryz.prog.globals[0]?).map (·.type)=some 207:=bm
theorem Hh{H:Type}{enc:TypeId×Value->H}{P:Program}{w:World}{k:Nat}{D:Nat->Bool}{v:Bool}{a:Nat}{t e:TypeId}{n:Nat}{cs:List Value}{zs:List afs}{p:List MemPlace}(A:P.underlying t=some (.array n e))(r:P.underlying e=some .string)(o:P.cellsOf e=1)(q:P.cellsOf t=n)(h:DataW.trod enc P w k D v a t cs=some (.agg (zs.map fun z=>.lit (.string z)),p)):cs=zs.map fun z=>Value.string ⟨z.toArray⟩:=by
 cases a with
 |zero=>simp[DataW.trod]at h
 |succ a=>
  simp only[DataW.trod,A,o,q,tL]at h;split at h
  ·rename_i E;obtain⟨xs,g,B⟩:=vq.1 h;have j:xs.map (·.1)=zs.map fun z=>(DataW.lit (.string z):DataW H):=by have:=CF Prod.fst B;exact eV
   have F:xs.length=n:=by simpa using Lib.mapM_length g
   have G:zs.length=n:=by have:=CF List.length j;exact lw
   apply List.ext_getElem?;intro i;by_cases y:i<n
   ·obtain⟨b,hb,x⟩:=Lib.mapM_at g i i (by simp[y]);obtain⟨z,m,rfl,_⟩:=QK r x;have l:cs[i]? =some (.string z):=by have:=CF (·[0]?) m;simpa[yn,Ar]using this
    have d:(xs.map (·.1))[i]? =some (DataW.lit (.string z.data.toList):DataW H):=by simp[hb]
    rw[j]at d;simp only[wg,vq,DataW.lit.injEq,Lit.string.injEq]at d;obtain⟨I,C,rfl⟩:=d;rw[l,wg,C];simp
   ·exact oM
  ·cases h
theorem zL{W:World}(h:laidMetH Tryz.prog Rows.topChecksRow.laid W)(k:W.ShapedOpen Tryz.prog):Tp.uI W:=by refine⟨Go.Proofs.cell_of_shapedOpen_int (P:=Tryz.prog) (g:=1) (t:=3) (zero:= #[.int .i64 0]) k (Bs bm) bm rfl bm bm vJ,fun i l j=> ?_⟩;obtain⟨v,⟨r,x,cs,o,p,q,e,m,n,d,_,_⟩,_⟩:=h;obtain rfl:=Option.some.inj (abF.symm.trans e);obtain rfl:=Option.some.inj (Un.symm.trans m);have b:=Hh (zs:=Tp.ux) Tryz.underlying207 xV bm bm d;have a:=World.var?_cell abF n i;rw[a,<-Array.getElem?_toList,b,wg,j];rfl
theorem KT{H:Type}{enc:TypeId×Value->H}{P:Program}{f:Func}{s:ChangeSpec}{n fresh C A:Bool}{W e:World}{args:Array Value}{v:Value}{i k:List (DataW H)}{d pa pv:List MemPlace}(l:DataW.Whole enc P f.params.toList s.vars n W args.toList i k d)(y:∀(b:Nat)(g:Nat->Bool)(D:Bool),DataW.TrodAll enc P e b g D f.resultTypes.toList (v.resultList f.resultTypes.size) (s.fn H (i++k)).results [])(o:∀g:Nat->Bool,(∀p∈d,g p.block=true)->DataW.TrodAll enc P e 0 g true f.params.toList args.toList (s.fn H (i++k)).args pa)(z:∀g:Nat->Bool,(∀p∈d,g p.block=true)->DataW.TrodVars enc P e g s.vars (s.fn H (i++k)).vars pv)(m:d=pa++pv)(F:W.keptBut e (·∈d))(E:∀a:Addr,a.block<W.heap.size->e.frozen? a=W.frozen? a)(K:∀(j:Nat)(t:TypeId)(r:Value),f.resultTypes[j]? =some t->(v.resultList f.resultTypes.size)[j]? =some r->Value.okWide P e .any 0 t r):s.post enc P f n fresh C A W args v e:=by
 have x:∀p∈d,(fun b=>decide (b<W.heap.size)) p.block=true:=fun p hp=>by simpa using l.lt p hp
 have G:=l.lt;refine⟨i,k,d,[],pa,pv,l,y _ _ _,o _ x,z _ x,World.keptBut_mono (fun p hp=>⟨hp,?_⟩) F,fun _=> ?_⟩;·rw[m,sI]at hp;exact Or.inr hp
 ·obtain⟨_,_,_,_,_,L,I⟩:=l;refine⟨K,_,_,([]++pa)++pv,⟨[]++pa,pv,trodAll_append (o _ (fun _ _=>rfl)) (y _ _ _),z _ (fun _ _=>rfl),rfl,?_,?_⟩,?_⟩
  ·intro b off hp;have q:MemPlace.cell b off∈d:=by rw[m];exact gg
   rw[E _ (G _ q)];exact L b off q
  ·intro B;have:=I B;rw[m]at this;exact eV
  ·intro p hp _;rw[m];exact gg
theorem M4{W b:World}(h:Tp.sZ W b)(a:Addr)(d:a.block<W.heap.size):b.frozen? a=W.frozen? a:=by unfold World.frozen?;rw[h.AA _ d]
theorem SE{W a:World}(h:Tp.sZ W a)(d:MemPlace->Prop):W.keptBut a d:=by
 refine⟨h.env.1,h.env.2,fun i b=> ?_⟩;rw[h.AA i b];cases g:W.heap[i]? with
 |none=>rfl
 |some e=>cases e<;>first|exact⟨rfl,rfl,rfl,fun _ _=>rfl⟩|exact Or.inr ⟨rfl,rfl⟩|rfl
theorem Fz{W a:World}(h:Tp.sZ W a)(x:MemPlace)(d:x.block<W.heap.size):W.sameAt a x:=by
 cases x with
 |cell b off=>exact h.cell d
 |map b=>exact h.AA b d
theorem Ud(H:Type)(enc:TypeId×Value->H)(W:World)(Y:Nat)(args:Array Value)(C a2:List (DataW H))(Z:List MemPlace)(z:∀(j:Nat) t v,Tryz.f4.params[j]? =some t->args[j]? =some v->Value.okWide Tryz.prog W .any Y t v)(I:DataW.Whole enc Tryz.prog Tryz.f4.params.toList Rows.topChecksSpec.vars false W args.toList C a2 Z)(a7:laidMetH Tryz.prog Rows.topChecksRow.laid W)(a8:W.ShapedOpen Tryz.prog):Calls Tryz.prog 4 args W fun e B=>∃v,e=.returned v/\Rows.topChecksSpec.post enc Tryz.prog Tryz.f4 false true false false W args v B:=by
 have a6:=zL a7 a8;have i:=I;obtain⟨p,q,G,a9,rfl,bn,bp⟩:=I;have F:DataW.TrodAll enc Tryz.prog W 0 (fun _=>true) true Tryz.f4.params.toList args.toList C p:=G;rw[Tryz.params4]at F z;obtain⟨R,bz,b7,bd,o,bv,bk,rfl,rfl,a3,b3⟩:=trodAll_cons F;obtain⟨T,bO,b8,be,r,bw,rfl,rfl,rfl,a4,b4⟩:=trodAll_cons b3;obtain⟨U,c3,b9,bj,y,bx,rfl,rfl,rfl,a5,b5⟩:=trodAll_cons b4;obtain⟨rfl,rfl,rfl⟩:=trodAll_nil b5;obtain rfl:args= #[R,T,U]:=by cases args;simp_all
 obtain⟨rfl,rfl⟩:=trodVars_none a9;clear G;simp only[sX]at i;have b1:∀x∈o,x.block<W.heap.size:=fun x a=>i.lt x (CB _ a)
 have CG:∀x∈r,x.block<W.heap.size:=fun x a=>i.lt x (wW _ (CB _ a))
 have b2:∀x∈y,x.block<W.heap.size:=fun x a=>i.lt x (wW _ (wW _ a))
 obtain⟨D,M⟩:=a3;obtain⟨E,N⟩:=a4;obtain⟨a1,ab⟩:=a5;obtain⟨cs,rfl,br⟩:=okWide_struct Q0 (z 0 32 R rfl rfl);obtain⟨a0,rfl,bs⟩:=okWide_struct Q0 (z 1 32 T rfl rfl);obtain⟨m,rfl⟩:=okWide_int vJ (z 2 3 U rfl rfl);obtain⟨A,n,c,Q,X,K,an,ad⟩:=Tp.abz D _ _ M;obtain⟨A',n',c',O,S,L,ar,af⟩:=Tp.abz E _ _ N;obtain⟨l⟩:=cs;obtain⟨l'⟩:=a0;change l=_ at K;change l'=_ at L;subst K L;have b6:Calls Tryz.prog 4 #[.agg #[.slice A n c,.int .i64 Q],.agg #[.slice A' n' c',.int .i64 O],.int .i64 m] W fun e w'=>e=.returned (.bool true)/\Tp.sZ W w':=Tp.IX X S m W a6 (fun b=>b<W.heap.size) Mem.ug A n c Q an ad A' n' c' O ar af
 refine b6.mono fun e B ⟨aa,k⟩=> ?_
 subst aa;have az:=fun(d:Nat->Bool)(g:∀x∈o++(r++y),d x.block=true)=>Ka (sp':=d) laidOut bm (Bs bm) ⟨D,M⟩ (fun x a=>Fz k x (b1 x a)) (fun x a=>g x (CB _ a))
 have aU:=fun(d:Nat->Bool)(g:∀x∈o++(r++y),d x.block=true)=>Ka (sp':=d) laidOut bm (Bs bm) ⟨E,N⟩ (fun x a=>Fz k x (CG x a)) (fun x a=>g x (wW _ (CB _ a)))
 have b0:=fun(d:Nat->Bool)(g:∀x∈o++(r++y),d x.block=true)=>Ka (sp':=d) laidOut bm (Bs bm) ⟨a1,ab⟩ (fun x a=>Fz k x (b2 x a)) (fun x a=>g x (wW _ (wW _ a)))
 exact⟨_,rfl,KT (pa:=o++(r++y)) (pv:=[]) i (fun _ _ _=>trodAll_cons_mk (shut_bool TJ _) trodAll_mk0) (fun d g=>trodAll_mk3 (az d g) (aU d g) (b0 d g)) (fun _ _=>rfl) (sX _).symm (SE k _) (M4 k) (ok_one bm rfl (okWide_bool_mk TJ _))⟩
abbrev PL:Array Value:= #[.agg #[.slice none 0 0,.int .i64 0],.agg #[.slice none 0 0,.int .i64 0],.int .i64 0]
noncomputable def Fj(os:Os):World:={World.holding Tryz.prog os ⟨#[],#[],[]⟩with heap:=(World.holding Tryz.prog os ⟨#[],#[],[]⟩).heap.modify 0 fun
 | .cells _ t frozen=>.cells (Tp.ux.map fun l=>Value.string ⟨l.toArray⟩).toArray t frozen
 |a=>a}
theorem UO(os:Os):laidMet Tryz.prog Rows.topChecksRow.laid ((Fj os).forCall (fun _ _=>0) ⟨#[],PL,[]⟩).memory:=laidMet_of_run' 8 bm bm
theorem reads(os:Os){H:Type}(enc:TypeId×Value->H):∃a,DataW.whole enc Tryz.prog ((Fj os).forCall (fun _ _=>0) ⟨#[],PL,[]⟩).memory Tryz.f4.params.toList Rows.topChecksSpec.vars false PL.toList 8=some ([.agg [.nil,.lit (.int .i64 0)],.agg [.nil,.lit (.int .i64 0)],.lit (.int .i64 0)],[],a):=⟨[],bm⟩
theorem lifted(os:Os)(o:os.Started)(H:Type)(enc:TypeId×Value->H)(F:Stop.Interp):ReturnsInHanded {} Tryz.checked os 4 .any ((OpenSpec.ofChange Rows.topChecksSpec).preRow enc Tryz.prog Tryz.f4 Rows.topChecksRow.domain false Rows.topChecksRow.laid) (((OpenSpec.ofChange Rows.topChecksSpec).at F).post enc Tryz.prog Tryz.f4 false true false false):=by obtain⟨p,n⟩:=reads os enc;refine returnsInHanded_of_row (C:=Tryz.checked) (s:=OpenSpec.ofChange Rows.topChecksSpec) own o bm Tryz.func4 (witness_row_at (enc:=enc) (C:=Tryz.checked) false (Fj os) PL rfl bm bm bm (OpenSpec.preRow_of_cond 8 n bm (fun k l=>by cases l) bm (UO os))) ?_;intro W a args d e b m j _ _ _ g i _;exact Ud H enc W a args d e b m j g i
theorem said:Rows.TopChecksSaid:=OpenClaim.holds_of_cond 4 Tryz.f4 rfl rfl rfl rfl rfl rfl rfl ⟨rfl,rfl,rfl,rfl,rfl⟩ rfl rfl rfl rfl rfl bm Tryz.func4 bm (Bs bm) (by unfold Func.isWrapper;first|(rw[rG bF];kernel_rfl)|(rw[rB bF];exact⟨rfl,rfl⟩)) (fun os a H enc _ F=>by rw[OpenClaim.pre_eq_preRow];exact lifted os a H enc F)
theorem plain(f:FuncId)(a:Func)(d:Tryz.pinned.checked.prog.funcNamed "avocet/avocettop.TopChecks" =some f)(e:Tryz.pinned.checked.prog.funcs[f]? =some a):false=Tryz.pinned.checked.prog.looks []/\∀(j:Nat) t,a.params[j]? =some t->Tryz.pinned.checked.prog.wantsStandIn t=false:=by
 obtain rfl:f=4:=Option.some.inj ((show Tryz.prog.funcNamed "avocet/avocettop.TopChecks" =some 4 from bm).symm.trans d)|>.symm;obtain rfl:a=Tryz.f4:=(Option.some.inj (Tryz.func4.symm.trans e)).symm;refine⟨bm,fun j t b=> ?_⟩;rw[Tryz.params4]at b;have g:t=32\/t=3:=by have:=Array.mem_of_getElem? b;exact eV
 rcases g with rfl|rfl;·exact(show Tryz.prog.wantsStandIn 32=false from bm)
 ·exact(show Tryz.prog.wantsStandIn 3=false from bm)
theorem proved:Rows.TopChecksCardSaid:=Claim7.holds_tied_plain_at .later [] _ _ _ _ said (by intro _ h;cases h) bm (by intro _ h;cases h) topChecks_row_tie rfl ⟨rfl,rfl⟩ bm rfl plain bm
end Go.Proofs.YtccjlcadbpinfaaGreatDoor.topChecks
#print axioms Go.Proofs.YtccjlcadbpinfaaGreatDoor.topChecks.proved
