/- A schema that is loaded of a text, and what is loaded of its own text, have one form and one fingerprint, take the same values, and put them as the same bytes; and stripped it takes them too: the law TopForms answers true at every text and value. No condition beyond the given card. -/
import Derived.Test.YtccjlcadbpinfaaGreatDoorX49
import Derived.Test.YtccjlcadbpinfaaGreatDoorCards
import Derived.Test.YtccjlcadbpinfaaGreatDoorTie
import Derived.Deep.DeepHandedRow
import Derived.Lib.LaidTab
import Derived.WideKeyArgs
import Derived.Shelf.Vars
set_option linter.all false
set_option maxRecDepth 100000
namespace Go.Proofs.YtccjlcadbpinfaaGreatDoor.topForms
open ChangeShapes WideShapes ChangeAt RowKit
theorem own:ownKnob Tryz.prog.godebug=none:=bg
theorem laidOut:laidOutB Tryz.prog=true:=bg
theorem Zl:Tryz.prog.globalNamed "avocet/naming.words" =some 0:=bg
theorem SW:(Tryz.prog.globals[0]?).map (·.type)=some 207:=bg
theorem GK{H:Type}{enc:TypeId×Value->H}{P:Program}{w:World}{k:Nat}{D:Nat->Bool}{v:Bool}{a:Nat}{t e:TypeId}{n:Nat}{cs:List Value}{zs:List acM}{p:List MemPlace}(A:P.underlying t=some (.array n e))(r:P.underlying e=some .string)(o:P.cellsOf e=1)(q:P.cellsOf t=n)(h:DataW.trod enc P w k D v a t cs=some (.agg (zs.map fun z=>.lit (.string z)),p)):cs=zs.map fun z=>Value.string ⟨z.toArray⟩:=by
 cases a with
 |zero=>simp[DataW.trod]at h
 |succ a=>
  simp only[DataW.trod,A,o,q,tv]at h;split at h
  ·rename_i E;obtain⟨xs,g,B⟩:=vP.1 h;have j:xs.map (·.1)=zs.map fun z=>(DataW.lit (.string z):DataW H):=by have:=vy Prod.fst B;exact fg
   have F:xs.length=n:=by simpa using Lib.mapM_length g
   have G:zs.length=n:=by have:=vy List.length j;exact kL
   apply List.ext_getElem?;intro i;by_cases y:i<n
   ·obtain⟨b,hb,x⟩:=Lib.mapM_at g i i (by simp[y]);obtain⟨z,m,rfl,_⟩:=DataW.trod_string r x;have l:cs[i]? =some (.string z):=by have:=vy (·[0]?) m;simpa[xP,z6]using this
    have d:(xs.map (·.1))[i]? =some (DataW.lit (.string z.data.toList):DataW H):=by simp[hb]
    rw[j]at d;simp only[tz,vP,DataW.lit.injEq,Lit.string.injEq]at d;obtain⟨I,C,rfl⟩:=d;rw[l,tz,C];simp
   ·exact nR
  ·cases h
theorem zk{a:World}(h:laidMetH Tryz.prog Rows.topFormsRow.laid a)(m:a.ShapedOpen Tryz.prog):Tp.vE a:=by refine⟨Go.Proofs.cell_of_shapedOpen_int (P:=Tryz.prog) (g:=1) (t:=3) (zero:= #[.int .i64 0]) m (Ep bg) bg rfl bg bg Tryz.underlying3,fun i l k=> ?_⟩;obtain⟨x,⟨v,y,cs,r,p,q,j,n,o,e,_,_⟩,_⟩:=h;obtain rfl:=Option.some.inj (Zl.symm.trans j);obtain rfl:=Option.some.inj (SW.symm.trans n);have d:=GK (zs:=Tp.ue) Tryz.underlying207 zh bg bg e;have b:=World.var?_cell Zl o i;rw[b,<-Array.getElem?_toList,d,tz,k];rfl
theorem Kd{H:Type}{enc:TypeId×Value->H}{P:Program}{f:Func}{s:ChangeSpec}{o fresh D B:Bool}{i e:World}{args:Array Value}{v:Value}{k l:List (DataW H)}{d pa pv:List MemPlace}(m:DataW.Whole enc P f.params.toList s.vars o i args.toList k l d)(z:∀(b:Nat)(g:Nat->Bool)(E:Bool),DataW.TrodAll enc P e b g E f.resultTypes.toList (v.resultList f.resultTypes.size) (s.fn H (k++l)).results [])(q:∀g:Nat->Bool,(∀p∈d,g p.block=true)->DataW.TrodAll enc P e 0 g true f.params.toList args.toList (s.fn H (k++l)).args pa)(A:∀g:Nat->Bool,(∀p∈d,g p.block=true)->DataW.TrodVars enc P e g s.vars (s.fn H (k++l)).vars pv)(n:d=pa++pv)(G:i.keptBut e (·∈d))(F:∀a:Addr,a.block<i.heap.size->e.frozen? a=i.frozen? a)(L:∀(j:Nat)(t:TypeId)(r:Value),f.resultTypes[j]? =some t->(v.resultList f.resultTypes.size)[j]? =some r->Value.okWide P e .any 0 t r):s.post enc P f o fresh D B i args v e:=by
 have y:∀p∈d,(fun b=>decide (b<i.heap.size)) p.block=true:=fun p hp=>by simpa using m.lt p hp
 have I:=m.lt;refine⟨k,l,d,[],pa,pv,m,z _ _ _,q _ y,A _ y,World.keptBut_mono (fun p hp=>⟨hp,?_⟩) G,fun _=> ?_⟩;·rw[n,sl]at hp;exact Or.inr hp
 ·obtain⟨_,_,_,_,_,M,K⟩:=m;refine⟨L,_,_,([]++pa)++pv,⟨[]++pa,pv,trodAll_append (q _ (fun _ _=>rfl)) (z _ _ _),A _ (fun _ _=>rfl),rfl,?_,?_⟩,?_⟩
  ·intro b off hp;have x:MemPlace.cell b off∈d:=by rw[n];exact iy
   rw[F _ (I _ x)];exact M b off x
  ·intro C;have:=K C;rw[n]at this;exact fg
  ·intro p hp _;rw[n];exact iy
theorem Mm{b d:World}(h:Tp.sK b d)(a:Addr)(e:a.block<b.heap.size):d.frozen? a=b.frozen? a:=by unfold World.frozen?;rw[h.zw _ e]
theorem Ri{a b:World}(h:Tp.sK a b)(e:MemPlace->Prop):a.keptBut b e:=by
 refine⟨h.env.1,h.env.2,fun i d=> ?_⟩;rw[h.zw i d];cases j:a.heap[i]? with
 |none=>rfl
 |some g=>cases g<;>first|exact⟨rfl,rfl,rfl,fun _ _=>rfl⟩|exact Or.inr ⟨rfl,rfl⟩|rfl
theorem Jb{a d:World}(h:Tp.sK a d)(x:MemPlace)(e:x.block<a.heap.size):a.sameAt d x:=by
 cases x with
 |cell b off=>exact h.cell e
 |map b=>exact h.zw b e
theorem SI(H:Type)(enc:TypeId×Value->H)(a:World)(Y:Nat)(args:Array Value)(D a1:List (DataW H))(Z:List MemPlace)(B:∀(j:Nat) t v,Tryz.f3.params[j]? =some t->args[j]? =some v->Value.okWide Tryz.prog a .any Y t v)(G:DataW.Whole enc Tryz.prog Tryz.f3.params.toList Rows.topFormsSpec.vars false a args.toList D a1 Z)(a5:laidMetH Tryz.prog Rows.topFormsRow.laid a)(a6:a.ShapedOpen Tryz.prog):Calls Tryz.prog 3 args a fun e C=>∃v,e=.returned v/\Rows.topFormsSpec.post enc Tryz.prog Tryz.f3 false true false false a args v C:=by
 have a4:=zk a5 a6;have k:=G;obtain⟨p,q,F,a7,rfl,b6,b8⟩:=G;have E:DataW.TrodAll enc Tryz.prog a 0 (fun _=>true) true Tryz.f3.params.toList args.toList D p:=F;rw[Tryz.params3]at E B;obtain⟨L,bk,b1,b3,o,be,b5,rfl,rfl,a2,ar⟩:=trodAll_cons E;obtain⟨M,bn,b2,b4,r,bj,rfl,rfl,rfl,a3,aU⟩:=trodAll_cons ar;obtain⟨rfl,rfl,rfl⟩:=trodAll_nil aU;obtain rfl:args= #[L,M]:=by cases args;simp_all
 obtain⟨rfl,rfl⟩:=trodVars_none a7;clear F;simp only[sw]at k;have ak:∀x∈o,x.block<a.heap.size:=fun x d=>k.lt x (List.mem_append_left _ d)
 have an:∀x∈r,x.block<a.heap.size:=fun x d=>k.lt x (List.mem_append_right _ d)
 obtain⟨y,I⟩:=a3;obtain⟨cs,rfl,b9⟩:=okWide_struct Tryz.underlying27 (B 1 27 M rfl rfl);obtain⟨u,K⟩:=Tp.LN y y rT _ _ I;obtain⟨a0,z⟩:=a2;obtain⟨A',n',c',rfl⟩:=okWide_slice sZ (B 0 22 L rfl rfl);obtain⟨A,n,c,xs,a8,aa,b7,ac⟩:=Tp.HA (c:=.slice A' n' c') z;rw[a8]at z k|-;have ab:Mem.Rd a a.heap.size A n xs:=Tp.Kg ac (fun _ h=>h);have b0:Calls Tryz.prog 3 #[.slice A n c,.agg cs] a fun e w'=>e=.returned (.bool true)/\Tp.sK a w':=by
  obtain⟨l⟩:=cs;change Tp.A9 a _ l u at K;cases K with
  |mk N O Q R S T U W X=>exact Tp.Ks xs a a4 A n c a.heap.size ab rT aa _ (fun b=>b<a.heap.size) _ _ _ _ _ _ _ _ _ _ _ _ (.mk N O Q R S T U W X) (fun _ h=>h)
 refine b0.mono fun e C ⟨a9,m⟩=> ?_
 subst a9;have ad:=fun(g:Nat->Bool)(i:∀x∈o++r,g x.block=true)=>WideElems.Trod_stays (sp':=g) laidOut bg (Ep bg) ⟨a0,z⟩ (fun x d=>Jb m x (ak x d)) (fun x d=>i x (List.mem_append_left _ d))
 have af:=fun(g:Nat->Bool)(i:∀x∈o++r,g x.block=true)=>WideElems.Trod_stays (sp':=g) laidOut bg (Ep bg) ⟨y,I⟩ (fun x d=>Jb m x (an x d)) (fun x d=>i x (List.mem_append_right _ d))
 exact⟨_,rfl,Kd (pa:=o++r) (pv:=[]) k (fun _ _ _=>trodAll_cons_mk (shut_bool Tryz.underlying4 _) trodAll_mk0) (fun g i=>trodAll_mk2 (ad g i) (af g i)) (fun _ _=>rfl) (sw _).symm (Ri m _) (Mm m) (ok_one bg rfl (okWide_bool_mk Tryz.underlying4 _))⟩
abbrev OC:Array Value:= #[.slice none 0 0,.agg #[.int .i64 0,.int .i64 0,.int .u64 0,.slice none 0 0,.slice none 0 0,.slice none 0 0]]
noncomputable def EJ(os:Os):World:={World.holding Tryz.prog os ⟨#[],#[],[]⟩with heap:=(World.holding Tryz.prog os ⟨#[],#[],[]⟩).heap.modify 0 fun
 | .cells _ t frozen=>.cells (Tp.ue.map fun l=>Value.string ⟨l.toArray⟩).toArray t frozen
 |a=>a}
theorem Tt(os:Os):laidMet Tryz.prog Rows.topFormsRow.laid ((EJ os).forCall (fun _ _=>0) ⟨#[],OC,[]⟩).memory:=laidMet_of_run' 8 bg bg
theorem reads(os:Os){H:Type}(enc:TypeId×Value->H):∃a,DataW.whole enc Tryz.prog ((EJ os).forCall (fun _ _=>0) ⟨#[],OC,[]⟩).memory Tryz.f3.params.toList Rows.topFormsSpec.vars false OC.toList 8=some ([.nil,.agg [.lit (.int .i64 0),.lit (.int .i64 0),.lit (.int .u64 0),.nil,.nil,.nil]],[],a):=⟨[],bg⟩
theorem lifted(os:Os)(p:os.Started)(H:Type)(enc:TypeId×Value->H)(F:Stop.Interp):ReturnsInHanded {} Tryz.checked os 3 .any ((OpenSpec.ofChange Rows.topFormsSpec).preRow enc Tryz.prog Tryz.f3 Rows.topFormsRow.domain false Rows.topFormsRow.laid) (((OpenSpec.ofChange Rows.topFormsSpec).at F).post enc Tryz.prog Tryz.f3 false true false false):=by obtain⟨q,o⟩:=reads os enc;refine returnsInHanded_of_row (C:=Tryz.checked) (s:=OpenSpec.ofChange Rows.topFormsSpec) own p bg Tryz.func3 (witness_row_at (enc:=enc) (C:=Tryz.checked) false (EJ os) OC rfl bg bg bg (OpenSpec.preRow_of_cond 8 o bg (fun k m=>by cases m) bg (Tt os))) ?_;intro a b args e g d n l _ _ _ i j _;exact SI H enc a b args e g d n l i j
theorem said:Rows.TopFormsSaid:=OpenClaim.holds_of_cond 3 Tryz.f3 rfl rfl rfl rfl rfl rfl rfl ⟨rfl,rfl,rfl,rfl,rfl⟩ rfl rfl rfl rfl rfl bg Tryz.func3 bg (Ep bg) (by unfold Func.isWrapper;first|(rw[rv bC];kernel_rfl)|(rw[ru bC];exact⟨rfl,rfl⟩)) (fun os a H enc _ F=>by rw[OpenClaim.pre_eq_preRow];exact lifted os a H enc F)
theorem plain(f:FuncId)(a:Func)(d:Tryz.pinned.checked.prog.funcNamed "avocet/avocettop.TopForms" =some f)(e:Tryz.pinned.checked.prog.funcs[f]? =some a):false=Tryz.pinned.checked.prog.looks []/\∀(j:Nat) t,a.params[j]? =some t->Tryz.pinned.checked.prog.wantsStandIn t=false:=by
 obtain rfl:f=3:=Option.some.inj ((show Tryz.prog.funcNamed "avocet/avocettop.TopForms" =some 3 from bg).symm.trans d)|>.symm;obtain rfl:a=Tryz.f3:=(Option.some.inj (Tryz.func3.symm.trans e)).symm;refine⟨bg,fun j t b=> ?_⟩;rw[Tryz.params3]at b;have g:t=22\/t=27:=by have:=Array.mem_of_getElem? b;exact fg
 rcases g with rfl|rfl;·exact(show Tryz.prog.wantsStandIn 22=false from bg)
 ·exact(show Tryz.prog.wantsStandIn 27=false from bg)
theorem proved:Rows.TopFormsCardSaid:=Claim7.holds_tied_plain_at .later [] _ _ _ _ said (fun _ h=>bX) bg (fun _ h=>bX) topForms_row_tie rfl ⟨rfl,rfl⟩ bg rfl plain bg
end Go.Proofs.YtccjlcadbpinfaaGreatDoor.topForms
#print axioms Go.Proofs.YtccjlcadbpinfaaGreatDoor.topForms.proved
