import Derived.Test.YtccjlcadbpinfaaGreatDoorX12
import Derived.RegionTactic
set_option linter.all false
set_option maxRecDepth 100000
set_option maxHeartbeats 16000000
namespace Go.Proofs.YtccjlcadbpinfaaGreatDoor.Tp
open ChangeShapes WideShapes ChangeAt RowKit
open Num Mem Can
section
variable(b d:Nat)(j:J){P:Program}(kn:List Int){S:List Nd}{o:Nat->Option Nat}{root:Int}{w w':World}{H k n c:Nat}{e t ty:TypeId}
def UK(D:∀a b,o a=some b->a<b/\∀i x,a<=i->i<b->S[i]? =some x->∀k∈uk x,0<=k/\k<(b:Int)):∀(ks:List Int)(d R:Nat),AV S o ks d=some R->d<=R/\(∀k∈ks,0<=k/\k<(R:Int))/\∀i x,d<=i->i<R->S[i]? =some x->∀k∈uk x,0<=k/\k<(R:Int):=by
 intro ks;induction ks with
 |nil=>intro d R h;simp only[AV,sq]at h;subst h;exact⟨rZ _,bA,fun i x y p=>V⟩
 |cons k ks t=>
  intro d R h;simp only[AV]at h;split at h
  ·rename_i C;cases m:o d with
   |none=>rw[m]at h;cases h
   |some v=>
    rw[m]at h;obtain⟨y,p⟩:=D _ _ m;obtain⟨q,h4,e⟩:=t v R h;refine⟨V,?_,?_⟩;·exact ky
    ·intro i x z B r j hj;rcases tE i v with l|l;·have:=p i x z l r j hj;omega
     ·exact e i x l B r j hj
  ·split at h;·cases h
   ·rename_i C;split at h
    ·split at h;·obtain⟨q,h4,e⟩:=t d R h;refine⟨q,?_,e⟩;exact ky
     ·cases h
    ·simp at h
def Wl(S:List Nd):∀(f a b:Nat),ye S f a=some b->a<b/\∀i x,a<=i->i<b->S[i]? =some x->∀k∈uk x,0<=k/\k<(b:Int):=by
 intro f;induction f with
 |zero=>intro a b h;cases h
 |succ f q=>
  intro a b h;simp only[ye]at h;cases e:S[a]? with
  |none=>rw[e]at h;cases h
  |some x=>
   rw[e]at h;obtain⟨r,l,m⟩:=UK q _ _ _ h;refine⟨V,?_⟩;intro i y o p d k j;rcases Nat.eq_or_lt_of_le o with rfl|t;·rw[e]at d;injection d with d;subst d;exact l k j
   ·exact m i y V p d k j
def DR(h:xH S root=true):root=0/\0<S.length/\S.length<=200/\∀x∈S,∀k∈uk x,0<=k/\k<(S.length:Int):=by unfold xH at h;simp only[rO,sd]at h;obtain⟨b,d,e,j⟩:=h;refine⟨e,b,d,fun x l=> ?_⟩;obtain⟨i,a,rfl⟩:=vx l;exact(Wl S _ _ _ j).2 i _ (sb _) a (rD a)
def yV(h:∀x∈S,∀k∈uk x,0<=k/\k<(S.length:Int)):∀x∈S,x.kind=9->∀f∈x.fields,0<=f.type/\f.type<(S.length:Int):=fun x d b f a=>by refine h x d f.type ?_;unfold uk;rw[rG b];exact ti.2 ⟨f,a,rfl⟩
def BR(h:∀x∈S,∀k∈uk x,0<=k/\k<(S.length:Int)):∀x∈S,x.kind=13->∀k∈x.rX,0<=k/\k<(S.length:Int):=fun x b a k hb=>by refine h x b k ?_;unfold uk;rw[rB V,rB V,rG a];exact hb
def IV(h:∀x∈S,∀k∈uk x,0<=k/\k<(S.length:Int)):∀x∈S,(x.kind=11\/x.kind=12)->0<=x.items/\x.items<(S.length:Int):=fun x b a=>by refine h x b x.items ?_;unfold uk;rw[rB V,rG a];simp
def UN(w:World)(n:Nat)(r:Nat)(hr:r=w.heap.size):JU (w.alloc (.cells (madeCells #[.int .i64 0] n) 3)) r (List.replicate n 0):=dm
def Uy(n:Nat):IZ (List.replicate n 0):=fun v a=>by obtain⟨_,rfl⟩:=NG.1 a;omega
def Yz(n:Nat):DF (List.replicate n 0)=n:=by unfold DF;rw[List.count_replicate_self]
def aaS:DF kn<=kn.length:=List.count_le_length
def Ai(S:List Nd)(root at_:Int):Int:=if 0<=at_/\at_<(S.length:Int)/\xH S root=true then(z6 S (S.length+1) at_.toNat (List.replicate S.length 0)).1 else 0
def Qh(n:Nat)(a:n<=100000000)(w:World):(Instr.makeSlice 77 (.int .i64 (n:Int)) (.int .i64 (n:Int))).run Tryz.prog w=.ok (.slice (some ⟨w.heap.size,0,none⟩) n n) (w.alloc (.cells (madeCells #[.int .i64 0] n) 3)):=run_make_row' (P:=Tryz.prog) 77 3 (.int .i64 0) 8 ud BJ rfl .i64 .i64 n V V w
def NO(S:List Nd)(root at_:Int)(w:World)(X:afu)(A:aft)(n c:Nat)(y:tJ w X A n S)(hX:∀b,X b->b<w.heap.size)(v:n<=100000000):Calls Tryz.prog 57 #[.agg #[.slice A n c,.int .i64 root],.int .i64 at_] w (vh w (.int .i64 (Ai S root at_))):=by
 have t:=y.len;obtain⟨R,e⟩:=sW (Ai S root at_);rw[<-e];unfold Ai at e;rw[t]at e;have j:=rz e;have HL:=rz t;clear e t;have sK:=(afw w).al rV (sC A n c root);have O:(w.alloc (sC A n c root)).cell? (rN w.heap.size 0)=some (.slice A n c):=bi;have T:(w.alloc (sC A n c root)).cell? (rN w.heap.size 1)=some (.int .i64 root):=bi;have C:=sK.l1;go_enter Tryz.func57,Tryz.ntmps57;go_upto_region 1 with fail;generalize w.alloc _=w1 at*;by_cases Z:at_<0
 ·obtain rfl:R=0:=by rw[j.out,rB V]
  exact bL
 by_cases a0:(n:Int)<=at_
 ·obtain rfl:R=0:=by rw[j.out,rB V]
  exact bL
 obtain⟨a,rfl⟩:∃a:Nat,at_=(a:Int):=⟨at_.toNat,V⟩;have I:=FV S root w1 X A n c (y.below sK hX) bq v;go_wp2_with fail;refine sG I fun a4 m=> ?_
 have U:=m.cl O C;have W:=m.cl T C;have Ac:=sK.sY V m;have a2:=m.size;cases o:xH S root with
 |false=>
  obtain rfl:R=0:=by rw[j.out,rB (by simp[o])]
  exact cK
 |true=>
  have ho:=DR o;rw[HL.out]at ho;have B:=yV (S:=S) kU;rw[HL.out]at B;have e:=j.out;rw[rG ⟨V,V,o⟩,su]at e;have De:=rz e;have a1:=Qh n v;clear e j o ho;go_upto_region 3 with fail;refine sT [0,1,2,3,4,5,6,7] [5,6] bm bm bA bm bt (fun wd r tj=> ?_);have d0:=r.cl U V;have d1:=r.cl W V;have z:=Ac.sY V r;have a3:w.heap.size<wd.heap.size:=V;clear tj;have M:=y.below z hX;refine aD ?_;refine tc rfl rfl (w.heap.size+1) V (fun F q=> ?_);go_wp2_with fail;have l:=(afw wd).al rV (.cells (madeCells #[.int .i64 0] n) 3);have E:=UN wd n wd.heap.size rfl;have N:=l.l1;refine q _ _ (l.mono V) ?_;have K:=M.below l bq;have H:=z.trans (l.mono (B':=w.heap.size) V);generalize wd.alloc _=Y at*;refine aw ?_;refine tc rfl rfl (w.heap.size+1) V (fun F q=> ?_);go_wp2_with fail;refine sG (Ir S root wd.heap.size A n c X v B (n+1) a (List.replicate n 0) Y (by rw[Yz];omega) (Uy n) yJ V K E N bq) fun a5 ⟨_,D⟩=> ?_
  go_wp2_with fail;refine q _ _ (D.below V V) ?_;refine aw ?_;refine sQ ?_;go_wp2_with fail;go_ret;exact⟨lr,H.trans (D.below V V)⟩
def zx(S:List Nd):Nat->List Nd->List Int->List afs->Bool
 |_,[],_,a=>CX vL a
 |i,x::r,kn,a=>vM S x&&(decide ((z6 S (S.length+1) i kn).1<=1000)&&zx S (i+1) r (z6 S (S.length+1) i kn).2 (if sr x.kind=true then a++[x.name]else a))
def ur(S:List Nd)(root:Int):Bool:=xH S root&&zx S 0 S (List.replicate S.length 0) []
def Co{S:List Nd}:∀(l:List Nd)(i:Nat)(kn:List Int)(d:List afs),zx S i l kn d=true->(∀x∈l,vM S x=true)/\CX vL (d++(l.filter fun x=>sr x.kind).map (·.name))=true
 | [],i,kn,d,h=>⟨bA,by simpa[zx]using h⟩
 |x::r,i,kn,d,h=>
 by
  simp only[zx,rO]at h;obtain⟨j,a⟩:=Co r _ _ _ h.2.2;refine⟨fun y e=> ?_,?_⟩
  ·rcases sD.1 e with rfl|e;·exact h.1
   ·exact j y e
  ·cases b:sr x.kind with
   |true=>rw[b,rG rfl,sw]at a;simpa[b]using a
   |false=>rw[b]at a;simpa[b]using a
def Oc{p:afs->Bool}{l:List afs}(h:CX p l=true):l.Pairwise (·≠·):=by rw[zU];intro i j d b e a;have:=(Ei (p:=p) (all:=l) l 0 rfl h j l[j] (rD b)).2;rw[tq,<-Ga,BX]at this;apply this;rw[<-a];have:(l.take j)[i]'(by simp;omega)=l[i]:=bA;rw[<-this];exact sj _
def BT(h:ur S root=true):LP S/\root=0/\ye S 33 0=some S.length:=by
 unfold ur at h;rw[rO]at h;obtain⟨a,r⟩:=h;obtain⟨p,q⟩:=Co _ _ _ _ r;have b:=Oc q;rw[so,List.pairwise_map,List.pairwise_filter,zU]at b;unfold xH at a;simp only[rO,sd]at a;refine⟨⟨p,?_,a.2.1⟩,a.2.2.1,a.2.2.2⟩;intro i j x y t v m o d;obtain⟨e,rfl⟩:=rQ.1 t;obtain⟨l,rfl⟩:=rQ.1 v;rcases Nat.lt_trichotomy i j with h|h|h;·exact absurd d (b i j e l h m o)
 ·exact h
 ·exact absurd d.symm (b j i l e h o m)
def N5(h:ur S 0=true)(j:(xS S 34 [] 0 (List.replicate S.length false,false)).2.2=false)(F:Nat)(b:SizeOf.sizeOf (xS S 34 [] 0 (List.replicate S.length false,false)).1<F):uf F (xS S 34 [] 0 (List.replicate S.length false,false)).1 [] [] 0=(0,S,0):=by obtain⟨ok,_,l⟩:=BT h;obtain⟨_,_,d⟩:=Sy ok 33 0 _ l 34 [] rfl;obtain⟨_,a⟩:=d (List.replicate S.length false) ⟨bA,fun i x o m=>fu⟩ j;have:=a F b;have e:tj S 0=[]:=rfl;rw[e]at this;exact eV
def N7:Tryz.prog.cellsOf 5=1:=bm
def NL(n c:Nat)(p A:aft)(F:Bool)(xs:afs)(w:World)(h:By w b p A n c F)(l:Mem.Own w d A n c xs)(q:xs≠ []):Calls Tryz.prog 61 #[sg b] w fun e w'=>e=.returned (.string ⟨xs.toArray⟩)/\Below d w w':=by
 have C:=l.len;have D:xs.length≠0:=by simpa using q
 subst C;obtain⟨g,cap,a,m,t,y,M,v,K,N⟩:∃g cap a,Value.slice A xs.length c=.slice (some ⟨g,0,none⟩) xs.length cap/\d<=g/\w.heap[g]? =some (.cells a 5 (0,0))/\xs.length<=cap/\cap<=maxLen/\a.size=cap*1/\a.toList.take (xs.length*1)=cells xs:=by
  rcases l.2 with⟨_,E⟩|⟨g,cap,a,m,r⟩;·exact absurd E D
  ·exact⟨g,cap,a,m,r⟩
 injection m with hA _ hcc;subst hA hcc;have c1:w.drew.cell? (rN b 1)=some (.slice (some ⟨g,0,none⟩) xs.length c):=h.c1;have H:(Builtin.unsafeSliceData_ #[22] 198 #[.slice (some ⟨g,0,none⟩) xs.length c]).run Tryz.prog w.drew=.ok (sg g) w.drew:=Lib.run_unsafeSliceData_row _ _ _ _ _ _ V;have I:(Builtin.unsafeString_ #[198,3] 9 #[sg g,.int .i64 xs.length]).run Tryz.prog w.drew=.ok (.string ⟨xs.toArray⟩) (w.drew.freeze ⟨g,0,none⟩ xs.length):=by refine Lib.run_unsafeString_row w.drew 198 3 9 5 Tryz.underlying198 N7 g a.size (by have z:w.drew.heap[g]? =some (.cells a 5 (0,0)):=y;simp[World.shape?,z]) xs q V (by unfold maxLen at v;omega) ?_;intro j x o;obtain⟨B,o⟩:=rQ.1 o;have:=Own.cellAt l j B;rw[o]at this;rw[yl,tq];exact this
 go_enter Tryz.func61,Tryz.ntmps61;go_wp2;go_region;all_goals(go_wp2;go_ret;exact⟨rfl,Lib.below_freeze (Below.drew (Below.refl d w)) (p:=rN g 0) t _⟩)
def zo(j:J):Except Int afs:=if ue j 0=true then(if(yB j ([],false)).2=true then .error 3 else .ok (yB j ([],false)).1)else .error 2
def GC{st:St}{s:afs}(b:s≠ [])(h:(xL st s).2=false):(xL st s).1≠ []:=by
 unfold xL at h|-;split;·rename_i a;rw[rG a]at h;cases h
 ·simp[b]
def Sf(t:afs):sB t≠ []:=by simp[sB]
def XS(n:Int):zZ n≠ []:=by
 have:∀f u,vB f u≠ []:=fun f u=>by cases f<;>unfold vB<;>(try split)<;>simp
 unfold zZ;intro h;have a:=(List.append_eq_nil_iff.1 h).2;exact this _ _ (by simpa using a)
def VL(st:St)(h:(yB j st).2=false):(yB j st).1≠ []:=by
 cases j with
 |mk k i t l ks=>
  unfold yB at h|-;repeat' split at h
  all_goals(try simp only[*,uy,xy]at*)
  all_goals first|exact GC (XS _) h|exact GC (Sf _) h|exact GC (by simp) h|exact GC (by split<;>simp) h
def Tu(w:World)(R:Except Int afs)(e:Ending)(w':World):Prop:=afv w w'/\match R with
 | .error x=>e=.returned (.tuple #[.slice none 0 0,.int .i64 x])
 | .ok l=>∃(g c:Nat),e=.returned (.tuple #[.slice (some ⟨g,0,none⟩) l.length c,.int .i64 0])/\l.length<=c/\Rd w' w'.heap.size (some ⟨g,0,none⟩) l.length l
def QX(ab:tS j)(ad:ue j 0=true->yF j)(w:World)(X:afu)(k i:Int)(t:ByteArray)(A:aft)(n c:Nat)(A':aft)(n' c':Nat)(h:uq w X (jv k i t A n c A' n' c') j)(hX:∀b,X b->b<w.heap.size):Calls Tryz.prog 30 #[jA k i t A n c A' n' c'] w (Tu w (zo j)):=by
 obtain⟨R,d⟩:=sW (zo j);rw[<-d];unfold zo at d;have e:=(afw w).al rV (jC k i t A n c A' n' c');have q:=vW.new w k i t A n c A' n' c' w.heap.size rfl;have y:=Df j ab (w.alloc (jC k i t A n c A' n' c')) X k i t A n c A' n' c' (h.stay e hX) eO;have a4:=h.stay e hX;have b4:=e.l1;generalize ue j 0=M at*;have HR:=rz d;have H:=rz y;clear d y;go_enter Tryz.func30,Tryz.ntmps30;go_upto_region 1 with fail;generalize w.alloc _=w1 at*;have a0:=q;obtain⟨⟨O,Q,T,U,W⟩,Y⟩:=a0;go_wp2_with fail;refine sG H.out fun a m=> ?_
 have b5:=m.size;have I:=q.below m V;have a5:=a4.stay m bq;have z:=e.sY V m;cases M;·obtain rfl:R=.error 2:=bU;go_wp2_with fail;go_ret2;exact⟨z,rfl⟩
 ·have af:=ad rfl;go_upto_region 4 with fail;have l:=(afw a).al rV (.cells #[.pointer none,.slice none 0 0,.bool false] 140);have a1:By (a.alloc (.cells #[.pointer none,.slice none 0 0,.bool false] 140)) a.heap.size none none 0 0 false:=World.alloc_heap_new a _;have K:=I.below l V;have a6:=a5.stay l bq;have az:=z.sY V l;have b6:=l.s1;generalize a.alloc _=E at*;have a9:Lx E a.heap.size (a.heap.size+1) ([],false):=⟨none,none,0,0,a1,.inl rfl,Mem.Own.nil _ _,V,V,V⟩;obtain⟨⟨O,Q,T,U,W⟩,Y⟩:=K;go_wp2_with fail;refine sG (VM _ j rV af E a.heap.size (a.heap.size+1) ([],false) X k i t A n c A' n' c' a6 (fun x an=>by have:=hX x an;omega) a9) fun b0 ⟨a8,a7,b3⟩=> ?_
  have B:=az.trans (a7.below (B':=w.heap.size) V V);have v:=VL j ([],false);generalize yB j ([],false)=N at*;obtain⟨xs,aU⟩:=N;obtain⟨p,F,b9,b2,o,bd,D,be,bj,bk⟩:=a8;simp only at o D v;have c2:=o.c2;cases aU
  ·obtain rfl:R=.ok xs:=bU;have ar:=v rfl;go_wp2_with fail;refine sG (NL _ _ _ _ p F false xs b0 o D ar) fun b1 r=> ?_
   have C:=B.trans (r.mono V);have b7:=r.size;go_wp2_with(refine Ao (t:=xs) rfl rfl ?_;intro Z bn a3 aa a2 b8);go_ret2;exact⟨C.sY (by have:=C.size;omega) a2,b1.heap.size,Z,rfl,a3,aa.more V⟩
  ·obtain rfl:R=.error 3:=bU;go_wp2_with fail;go_ret2;exact⟨B,rfl⟩
def Fr(w:World)(g:Nat)(own:Nat->Option Nat)(b:Nat):Prop:=b<w.heap.size/\b≠g/\∀k,own k≠some b
def IG(w:World)(g:Nat)(own:Nat->Option Nat)(L:afu)(b:Nat):Prop:=Fr w g own b/\¬L b
def vF{A:aft}{m c:Nat}{xs:List Value}(h:w.ownsRow H e k (.slice A m c) n xs)(hb:∀b,A.map (·.block)=some b->w'.heap[b]? =w.heap[b]?):w'.ownsRow H e k (.slice A m c) n xs:=by
 refine⟨h.1,?_⟩;rcases h.2 with h|⟨g,cap,cur,hv,hbg,hg,hr⟩;·exact .inl h
 ·exact gv
def zP{A:aft}{c:Nat}{xs:List Value}(h:w.ownsRow H e k (.slice A n c) n xs):n<=c:=dV
def vr{A:aft}{c:Nat}{xs:List Value}(h:w.ownsRow H e k (.slice A n c) n xs){b:Nat}(hb:A.map (·.block)=some b):H<=b/\b<w.heap.size:=by
 refine World.ownsRow.lt h b ?_;cases A with
 |none=>simp at hb
 |some a=>simpa[Value.ownBlock]using hb
def XW{i:TypeInfo}{z:Value}{bytes:Nat}(K:P.underlying t=some (.slice e))(y:P.info? e=some i)(M:i.zero=some z)(I:i.size=k)(r:i.bytes=bytes)(N:z.cells.size=k)(C:0<k)(hb:bytes<=1000){A:aft}{xs:List Value}(h:w.ownsRow H e k (.slice A n c) n xs){cs:List Value}(D:cs.length=k)(o:∀u∈cs,u.oneCell'=true){q cap:Nat}(hq:∀j u,cs[j]? =some u->w.cell? (rN q j)=some u)(R:n<=100000000)(p:H<=w.heap.size):∃A2 c2 w',(Builtin.append_ #[t,t] ty #[.slice A n c,.slice (some ⟨q,0,none⟩) 1 cap]).run P w=.ok (.slice A2 (n+1) c2) w'/\w'.ownsRow H e k (.slice A2 (n+1) c2) (n+1) (xs++cs)/\Lu A w w'/\((A2.map (·.block)=A.map (·.block)\/A2.map (·.block)=some w.heap.size)/\(w'.os=w.os/\w'.output=w.output)):=by
 obtain⟨O,w',F,g2,a,Q,l⟩:=vu (P:=P) w H t ty e i z k bytes K y M I r N C (.slice A n c) n xs h ⟨q,0,none⟩ 1 cap cs (by rw[D];omega) (fun j u hu=>eS) o dD eq p;have v:∃A2 c2,O=.slice A2 (n+1) c2:=cU;obtain⟨A2,c2,rfl⟩:=v;have Lz:∀(B:aft)(m d:Nat),(Value.slice B m d).ownBlock=B.map (·.block):=fun B m d=>eI
 rw[Lz,Lz]at l;exact⟨A2,c2,w',F,g2,⟨a.size,fun b hb E=>a.block b hb (fun he=>E fU)⟩,l,a.os,a.output⟩
def Dd{l:Array Oper}{m:Exit->Act->World->Prop}{v:List Oper}{a:Act}{w:World}{t ty e:TypeId}{H k n c:Nat}{A:aft}{xs cs:List Value}{b:Option Tmp}{s x:Operand}{r:String}{o:Array Edge}{p:Option (Nat×Bool)}(W:Region.wanted ⟨b,.call {callee:=.builtin .append,args:= #[s,x],argTypes:= #[t,t]},ty,r,o,p⟩ (yielded l a.tmps)=true){z:Value}{bytes:Nat}(U:Tryz.prog.underlying t=some (.slice e))(d:(Tryz.prog.info? e).map (fun i=>(i.zero,i.size,i.bytes))=some (some z,k,bytes))(a1:z.cells.size=k)(M:0<k)(hb:bytes<=1000)(T:a.eval s=.slice A n c){q cap:Nat}(X:a.eval x=.slice (some ⟨q,0,none⟩) 1 cap)(h:w.ownsRow H e k (.slice A n c) n xs)(N:cs.length=k)(y:∀u∈cs,u.oneCell'=true)(Q:∀j u,cs[j]? =some u->w.cell? (rN q j)=some u)(O:n<=100000000)(F:H<=w.heap.size)(I:∀A2 c2 w',w'.ownsRow H e k (.slice A2 (n+1) c2) (n+1) (xs++cs)->Lu A w w'->((A2.map (·.block)=A.map (·.block)\/A2.map (·.block)=some w.heap.size)/\(w'.os=w.os/\w'.output=w.output))->wpList Tryz.prog l m v (a.put b (.slice A2 (n+1) c2)) w'):wpList Tryz.prog l m (⟨b,.call {callee:=.builtin .append,args:= #[s,x],argTypes:= #[t,t]},ty,r,o,p⟩::v) a w:=by
 obtain⟨a2,d,Y,Z,a0⟩:=xG d;refine tG W fun K E=> ?_
 obtain⟨A2,c2,w',R,B,C,D⟩:=XW (P:=Tryz.prog) (ty:=ty) U d Y Z a0 a1 M hb h N y (cap:=cap) Q O F;unfold Oper.wp execOp;simp only[resolve,invoke,builtin,uJ,vR,ua,List.map_toArray,xB,List.map_nil,T,X,R];exact E _ _ (I A2 c2 w' B C D)
end
structure Mv(w w':World)(g k:Nat)(own tT:Nat->Option Nat):Prop where
 size:w.heap.size<=w'.heap.size
 AA:∀b,b<w.heap.size->b≠g->own k≠some b->w'.heap[b]? =w.heap[b]?
 oth:∀j,j≠k->tT j=own j
 this:tT k=own k\/tT k=some w.heap.size
 inj:∀i j b,own i=some b->own j=some b->i=j
 Fs:∀j b,own j=some b->g<b/\b<w.heap.size
section
variable{w w':World}{g k:Nat}{own tT:Nat->Option Nat}{L:afu}
def Mv.fr(m:Mv w w' g k own tT){b:Nat}(h:Fr w g own b):w'.heap[b]? =w.heap[b]?/\Fr w' g tT b:=by
 refine⟨m.AA b h.1 h.2.1 (h.2.2 k),by have:=m.size;exact lq,h.2.1,fun j=> ?_⟩;by_cases a:j=k
 ·subst a;rcases m.this with e|e;·rw[e];exact h.2.2 j
  ·rw[e];intro e;injection e with e;exact lq
 ·rw[m.oth j a];exact h.2.2 j
def Mv.cell(m:Mv w w' g k own tT){q:Addr}(h:Fr w g own q.block):w'.cell? q=w.cell? q:=rK (w:=w) (m.fr h).1
def Mv.frl(m:Mv w w' g k own tT){b:Nat}(h:IG w g own L b):w'.heap[b]? =w.heap[b]?/\IG w' g tT L b:=⟨(m.fr h.1).1,(m.fr h.1).2,h.2⟩
def Mv.PU(m:Mv w w' g k own tT){q:Addr}(h:IG w g own L q.block):w'.cell? q=w.cell? q:=m.cell h.1
def Mv.ab1(m:Mv w w' g k own tT):∀i j b,tT i=some b->tT j=some b->i=j:=by
 have key:∀i b,tT i=some b->(own i=some b)\/(i=k/\b=w.heap.size):=fun i b h=>
  by
   by_cases a:i=k
   ·subst a;rcases m.this with e|e;·exact .inl (e▸h)
    ·rw[e]at h;injection h with h;exact .inr ⟨rfl,h.symm⟩
   ·exact .inl (by rw[m.oth i a]at h;exact h)
 intro i j b a o;rcases key i b a with d|⟨d,p⟩<;>rcases key j b o with l|⟨l,q⟩;·exact m.inj i j b d l
 ·have:=m.Fs i b d;omega
 ·have:=m.Fs j b l;omega
 ·omega
def Mv.row(m:Mv w w' g k own tT){j e:Nat}{t:TypeId}(p:j≠k){A:aft}{n n' c:Nat}{xs:List Value}(h:w.ownsRow (g+1) t e (.slice A n c) n' xs)(o:A.map (·.block)=own j):w'.ownsRow (g+1) t e (.slice A n c) n' xs:=vF h fun b hb=>by have a:own j=some b:=o▸hb;have d:=m.Fs j b a;exact m.AA b d.2 V fun l=>p (m.inj j k b a l)
def Mv.lo(m:Mv w w' g k own tT)(lo:∀b,L b->g<b/\b<w.heap.size/\∀k,own k≠some b):∀b,L b->g<b/\b<w'.heap.size/\∀k,tT k≠some b:=fun b hb=>have h:=lo b hb;⟨h.1,by have:=m.size;omega,(m.fr ⟨h.2.1,V,h.2.2⟩).2.2.2⟩
def YI(w:World)(g:Nat)(own:Nat->Option Nat)(L:afu)(x:Nd)(A1:aft)(n1 c1:Nat)(A3:aft)(n3 c3:Nat):Prop:=Row w (IG w g own L) 1 A1 n1 (uL x.aliases)/\Row w (IG w g own L) 1 A3 n3 (uL x.symbols)/\n1<=c1/\n3<=c3/\n1<=100000000/\n3<=100000000
def BdF(w:World)(g:Nat)(own:Nat->Option Nat)(L:afu)(k:Nat)(fs:List Fd)(A2:aft)(n2 c2:Nat):Prop:=∃a:List (List Value),w.ownsRow (g+1) 82 9 (.slice A2 n2 c2) n2 a.flatten/\(∀cs∈a,cs.length=9)/\a.length=fs.length/\(∀(i:Nat)(h:i<a.length)(b:i<fs.length),DB w (IG w g own L) a[i] fs[i])/\A2.map (·.block)=own k/\n2<=100000000
def BdB(w:World)(g:Nat)(own:Nat->Option Nat)(k:Nat)(a:List Int)(A4:aft)(n4 c4:Nat):Prop:=w.ownsRow (g+1) 3 1 (.slice A4 n4 c4) n4 (xZ a).flatten/\A4.map (·.block)=own k/\n4<=100000000
def YI.mv(m:Mv w w' g k own tT){x:Nd}{A1:aft}{n1 c1:Nat}{A3:aft}{n3 c3:Nat}(h:YI w g own L x A1 n1 c1 A3 n3 c3):YI w' g tT L x A1 n1 c1 A3 n3 c3:=⟨h.1.keep (fun _=>m.PU) (fun _ h=>(m.frl h).2),h.2.1.keep (fun _=>m.PU) (fun _ h=>(m.frl h).2),h.2.2⟩
def BdF.mv(m:Mv w w' g k own tT){j:Nat}(e:j≠k){fs:List Fd}{A2:aft}{n2 c2:Nat}(h:BdF w g own L j fs A2 n2 c2):BdF w' g tT L j fs A2 n2 c2:=by obtain⟨l,o,p,q,r,d,t⟩:=h;exact⟨l,m.row e o d,p,q,fun i a b=>(r i a b).keep (fun _=>m.PU) (fun _ h=>(m.frl h).2),by rw[m.oth j e];exact d,t⟩
def BdB.mv(m:Mv w w' g k own tT){j:Nat}(b:j≠k){a:List Int}{A4:aft}{n4 c4:Nat}(h:BdB w g own j a A4 n4 c4):BdB w' g tT j a A4 n4 c4:=⟨m.row b h.1 h.2.1,by rw[m.oth j b];exact h.2.1,h.2.2⟩
end
def U0(x:Nd)(A1:aft)(n1 c1:Nat)(A2:aft)(n2 c2:Nat)(A3:aft)(n3 c3:Nat)(A4:aft)(n4 c4:Nat):List Value:=(nL x A1 n1 c1 A2 n2 c2 A3 n3 c3 A4 n4 c4)
def SQ(w:World)(g:Nat)(own:Nat->Option Nat)(L:afu)(i:Nat)(cs:List Value)(x:Nd):Prop:=∃(A1:aft)(n1 c1:Nat)(A2:aft)(n2 c2:Nat)(A3:aft)(n3 c3:Nat)(A4:aft)(n4 c4:Nat),cs=U0 x A1 n1 c1 A2 n2 c2 A3 n3 c3 A4 n4 c4/\YI w g own L x A1 n1 c1 A3 n3 c3/\BdF w g own L (2*i+1) x.fields A2 n2 c2/\BdB w g own (2*i+2) x.rX A4 n4 c4
def SQ.mv{w w':World}{g k:Nat}{own tT:Nat->Option Nat}{L:afu}(m:Mv w w' g k own tT){i:Nat}(d:2*i+1≠k)(j:2*i+2≠k){cs:List Value}{x:Nd}(h:SQ w g own L i cs x):SQ w' g tT L i cs x:=by obtain⟨A1,n1,c1,A2,n2,c2,A3,n3,c3,A4,n4,c4,e,a,f,b⟩:=h;exact⟨A1,n1,c1,A2,n2,c2,A3,n3,c3,A4,n4,c4,e,a.mv m,f.mv m d,b.mv m j⟩
structure CK(w:World)(g:Nat)(own:Nat->Option Nat)(L:afu)(A:aft)(n c:Nat)(S:List Nd):Prop where
 row:∃uQ:List (List Value),w.ownsRow (g+1) 79 10 (.slice A n c) n uQ.flatten/\uQ.length=n/\S.length=n/\∀(i:Nat)(h:i<uQ.length)(h':i<S.length),SQ w g own L i uQ[i] S[i]
 hd:A.map (·.block)=own 0
 inj:∀i j b,own i=some b->own j=some b->i=j
 Fs:∀j b,own j=some b->g<b/\b<w.heap.size
 out:∀j,2*n<j->own j=none
 lt:g<w.heap.size
 le:n<=1000
 lo:∀b,L b->g<b/\b<w.heap.size/\∀k,own k≠some b
def SQ.len{w:World}{g:Nat}{own:Nat->Option Nat}{L:afu}{i:Nat}{cs:List Value}{x:Nd}(h:SQ w g own L i cs x):cs.length=10:=by obtain⟨A1,n1,c1,A2,n2,c2,A3,n3,c3,A4,n4,c4,e,_⟩:=h;rw[e];rfl
def Dh{w:World}{g:Nat}{own:Nat->Option Nat}{L:afu}{uQ:List (List Value)}{S:List Nd}(e:uQ.length=S.length)(h:∀(i:Nat)(h:i<uQ.length)(d:i<S.length),SQ w g own L i uQ[i] S[i]):∀cs∈uQ,cs.length=10:=fun cs a=>by obtain⟨i,b,rfl⟩:=List.mem_iff_getElem.1 a;exact(h i b V).len
structure D2(w w':World)(g:Nat)(own tT:Nat->Option Nat):Prop where
 size:w.heap.size<=w'.heap.size
 AA:∀b,Fr w g own b->w'.heap[b]? =w.heap[b]?/\Fr w' g tT b
 env:w'.os=w.os/\w'.output=w.output
def D2.refl(w:World)(g:Nat)(own:Nat->Option Nat):D2 w w g own own:=⟨rZ _,fun _ h=>⟨rfl,h⟩,rfl,rfl⟩
def D2.trans{w w1 j:World}{g:Nat}{own d e:Nat->Option Nat}(h:D2 w w1 g own d)(a:D2 w1 j g d e):D2 w j g own e:=⟨sn h.1 a.1,fun b hb=>⟨((a.2 b (h.2 b hb).2).1).trans (h.2 b hb).1,(a.2 b (h.2 b hb).2).2⟩,a.env.1.trans h.env.1,a.env.2.trans h.env.2⟩
def Mv.yM{w w':World}{g k:Nat}{own tT:Nat->Option Nat}(m:Mv w w' g k own tT)(a:w'.os=w.os/\w'.output=w.output):D2 w w' g own tT:=⟨m.size,fun _ h=>m.fr h,a⟩
section
variable{w w':World}{g n c:Nat}{own:Nat->Option Nat}{L:afu}{A:aft}{S:List Nd}
def CK.XP(h:CK w g own L A n c S)(e:w.heap.size<=w'.heap.size)(hb:∀b,b<w.heap.size->b≠g->w'.heap[b]? =w.heap[b]?):∀k,Mv w w' g k own own:=fun k=>⟨e,fun b d a _=>hb b d a,fun _ _=>rfl,.inl rfl,h.inj,h.Fs⟩
def CK.keep(h:CK w g own L A n c S)(d:w.heap.size<=w'.heap.size)(hb:∀b,b<w.heap.size->b≠g->w'.heap[b]? =w.heap[b]?):CK w' g own L A n c S:=by obtain⟨uQ,l,m,o,p⟩:=h.row;refine⟨⟨uQ,(h.XP d hb 1).row (j:=0) V l h.hd,m,o,fun i a b=>(p i a b).mv (h.XP d hb 0) V V⟩,h.hd,h.inj,fun j b e=>⟨(h.Fs j b e).1,by have:=(h.Fs j b e).2;omega⟩,h.out,by have:=h.lt;omega,h.le,(h.XP d hb 0).lo h.lo⟩
def CK.yM(h:CK w g own L A n c S)(d:w.heap.size<=w'.heap.size)(hb:∀b,b<w.heap.size->b≠g->w'.heap[b]? =w.heap[b]?)(a:w'.os=w.os/\w'.output=w.output):D2 w w' g own own:=(h.XP d hb 0).yM a
def CK.fresh(h:CK w g own L A n c S){uQ:List (List Value)}(d:uQ.length=n)(C:∀(i:Nat)(h:i<uQ.length)(D:i<S.length),SQ w g own L i uQ[i] S[i]){A':aft}{c':Nat}{x:Nd}{A1:aft}{n1 c1:Nat}{A3:aft}{n3 c3:Nat}(a:w'.ownsRow (g+1) 79 10 (.slice A' (n+1) c') (n+1) (uQ.flatten++U0 x A1 n1 c1 none 0 0 A3 n3 c3 none 0 0))(hg:Lu A w w')(l:(A'.map (·.block)=A.map (·.block)\/A'.map (·.block)=some w.heap.size)/\(w'.os=w.os/\w'.output=w.output))(v:YI w g own L x A1 n1 c1 A3 n3 c3)(y:x.fields=[])(hb:x.rX=[])(I:n<1000):∃tT,CK w' g tT L A' (n+1) c' (S++[x])/\D2 w w' g own tT:=by
 have m:Mv w w' g 0 own (fun j=>if j=0 then A'.map (·.block)else own j):=⟨hg.1,fun b B E z=>hg.2 b B (h.hd▸z),fun j hj=>rB hj,by simp only[uy];rw[<-h.hd];exact l.1,h.inj,h.Fs⟩;have o:S.length=n:=h.row.elim fun _ r=>r.2.2.1
 refine⟨_,⟨⟨uQ++[U0 x A1 n1 c1 none 0 0 A3 n3 c3 none 0 0],by simpa using a,by simp[d],by simp[o],?_⟩,bA,m.ab1,?_,?_,by have:=h.lt;have:=hg.1;omega,V,m.lo h.lo⟩,m.yM l.2⟩
 ·intro i p F;by_cases H:i<n;·rw[vP V,vP V];exact(C i V V).mv m V V
  ·obtain rfl:i=n:=by rw[rL,d]at p;simp at p;omega
   have q:(uQ++[U0 x A1 n1 c1 none 0 0 A3 n3 c3 none 0 0])[i]=U0 x A1 n1 c1 none 0 0 A3 n3 c3 none 0 0:=by rw[uh V];simp[d]
   have t:(S++[x])[i]=x:=by rw[uh V];simp[o]
   rw[q,t];refine⟨A1,n1,c1,none,0,0,A3,n3,c3,none,0,0,rfl,v.mv m,⟨[],uH _ _ _ _,bA,by rw[y];rfl,fun i h=>absurd h bA,?_,V⟩,⟨by rw[hb];exact uH _ _ _ _,?_,V⟩⟩;·exact pc
   ·exact pc
 ·intro j b e;by_cases hj:j=0;·subst hj;simp only[uy]at e;exact⟨by have:=(vr a e).1;omega,(vr a e).2⟩
  ·exact oK
 ·intro j hj;rw[rB V];exact h.out j V
end
def Jb{k:Nat}:∀(uQ:List (List Value))(i q:Nat)(v:Value),(∀cs∈uQ,cs.length=k)->∀h:i<uQ.length,q<k->uQ.flatten.set (i*k+q) v=(uQ.set i (uQ[i].set q v)).flatten
 | [],i,_,_,_,h,_=>absurd h bA
 |a::l,0,q,v,b,_,d=>by rw[zG,tq,vo,List.set_append,rG (by rw[b a bA];exact d)];simp
 |a::l,i+1,q,v,b,h,d=>by have e:=b a bA;have j:(i+1)*k=i*k+k:=zF i k;rw[vo,List.set_append,rB (by rw[e];omega),e,show(i+1)*k+q-k=i*k+q from V,Jb l i q v (fun cs hc=>b cs lC) eK d];simp
structure JS(w:World)(g:Nat)(own:Nat->Option Nat)(L:afu)(A:aft)(n c:Nat)(S:List Nd)(i G:Nat)(uQ:List (List Value))(x:Nd)(A1:aft)(n1 c1:Nat)(A2:aft)(n2 c2:Nat)(A3:aft)(n3 c3:Nat)(A4:aft)(n4 c4:Nat):Prop where
 hA:A=some ⟨G,0,none⟩
 r1:w.ownsRow (g+1) 79 10 (.slice A n c) n uQ.flatten
 r2:uQ.length=n
 r3:S.length=n
 r4:∀(j:Nat)(h:j<uQ.length)(h':j<S.length),SQ w g own L j uQ[j] S[j]
 hx:S[i]? =some x
 Xn:uQ[i]? =some (U0 x A1 n1 c1 A2 n2 c2 A3 n3 c3 A4 n4 c4)
 ha:YI w g own L x A1 n1 c1 A3 n3 c3
 hf:BdF w g own L (2*i+1) x.fields A2 n2 c2
 hb:BdB w g own (2*i+2) x.rX A4 n4 c4
 hG:g<G/\G<w.heap.size
 cell:∀q v,(U0 x A1 n1 c1 A2 n2 c2 A3 n3 c3 A4 n4 c4)[q]? =some v->w.cell? (rN G (i*10+q))=some v
 fz:∀q,w.frozen? (rN G q)=false
def LZ{k:Nat}:∀(uQ:List (List Value))(i q:Nat)(cs:List Value)(v:Value),(∀cs∈uQ,cs.length=k)->uQ[i]? =some cs->cs[q]? =some v->uQ.flatten[i*k+q]? =some v
 | [],i,_,_,_,_,h,_=>absurd h bA
 |a::l,0,q,cs,v,d,h,b=>by simp at h;subst h;have j:q<a.length:=(rQ.1 b).1;rw[vo,zG,tq,D8 j];exact b
 |a::l,i+1,q,cs,v,d,h,b=>by have e:=d a bA;have m:(i+1)*k=i*k+k:=zF i k;rw[vo,zg (by rw[e];omega),e,show(i+1)*k+q-k=i*k+q from V];exact LZ l i q cs v (fun cs hc=>d cs lC) eK b
section
variable{w w':World}{g n c:Nat}{own:Nat->Option Nat}{L:afu}{A:aft}{S:List Nd}
def CK.at_(h:CK w g own L A n c S){i:Nat}(z:i<n):∃G uQ x A1 n1 c1 A2 n2 c2 A3 n3 c3 A4 n4 c4,JS w g own L A n c S i G uQ x A1 n1 c1 A2 n2 c2 A3 n3 c3 A4 n4 c4:=by
 obtain⟨uQ,d,r,t,j⟩:=h.row;obtain⟨A1,n1,c1,A2,n2,c2,A3,n3,c3,A4,n4,c4,e,a,f,b⟩:=j i V V;obtain⟨G,cap,hv,y,_⟩:=World.ownsRow.form d V;have m:A=some ⟨G,0,none⟩:=ia;have l:uQ[i]? =some (U0 S[i] A1 n1 c1 A2 n2 c2 A3 n3 c3 A4 n4 c4):=by rw[rD V,e]
 subst m;have o:=vr d (b:=G) rfl;refine⟨G,uQ,S[i],A1,n1,c1,A2,n2,c2,A3,n3,c3,A4,n4,c4,rfl,d,r,t,j,rD V,l,a,f,b,⟨V,o.2⟩,fun q v p=> ?_,fun q=>World.ownsRow.frozenAt d q⟩;have:=World.ownsRow.cells (g:=G) d rfl (i*10+q) v (LZ uQ i q _ v (Dh V j) l p);rwa[yl,tq]at this
def NX{G i q:Nat}{uQ:List (List Value)}{cs:List Value}{v:Value}{x':Nd}(D:w.ownsRow (g+1) 79 10 (.slice (some ⟨G,0,none⟩) n c) n uQ.flatten)(E:uQ.length=n)(F:S.length=n)(z:∀cs∈uQ,cs.length=10)(K:i<n)(C:q<10)(H:∀(j:Nat)(h:j<uQ.length)(I:j<S.length),j≠i->SQ w g own L j uQ[j] S[j])(a:uQ[i]? =some cs)(B:SQ w g own L i (cs.set q v) x')(o:some G=own 0)(p:∀i j b,own i=some b->own j=some b->i=j)(r:∀j b,own j=some b->g<b/\b<w.heap.size)(out:∀j,2*n<j->own j=none)(lt:g<w.heap.size)(le:n<=1000)(lo:∀b,L b->g<b/\b<w.heap.size/\∀k,own k≠some b):CK (w.setCell ⟨G,i*10+q,none⟩ v) g own L (some ⟨G,0,none⟩) n c (S.set i x')/\D2 w (w.setCell ⟨G,i*10+q,none⟩ v) g own own:=by
 obtain⟨s1,s2⟩:=World.ownsRow.stored D (i*10+q) v;have m:Mv w (w.setCell ⟨G,i*10+q,none⟩ v) g 0 own own:=⟨s2.size,fun b hb _ y=>s2.block b hb (by rw[o];exact fun e=>y e.symm),fun _ _=>rfl,.inl rfl,p,r⟩;have l:i<uQ.length:=V;rw[rD l]at a;injection a with a;rw[Jb uQ i q v z l C,a]at s1;refine⟨⟨⟨uQ.set i (cs.set q v),s1,by simpa using E,by simpa using F,fun j hj t=> ?_⟩,o,p,fun j b e=>by have:=r j b e;exact eV,out,by simpa using lt,le,m.lo lo⟩,m.yM ⟨rfl,rfl⟩⟩;by_cases d:j=i;·subst d;rw[List.getElem_set_self,List.getElem_set_self];exact B.mv m V V
 ·rw[List.getElem_set_ne (Ak d),List.getElem_set_ne (Ak d)];exact(H j fK (by simpa using t) d).mv m V V
variable{i G:Nat}{uQ:List (List Value)}{x:Nd}{A1:aft}{n1 c1:Nat}{A2:aft}{n2 c2:Nat}{A3:aft}{n3 c3:Nat}{A4:aft}{n4 c4:Nat}
def CK.items(h:CK w g own L A n c S)(a:JS w g own L A n c S i G uQ x A1 n1 c1 A2 n2 c2 A3 n3 c3 A4 n4 c4)(o:i<n)(k:Int):CK (w.setCell ⟨G,i*10+8,none⟩ (.int .i64 k)) g own L A n c (S.set i {x with items:=k})/\D2 w (w.setCell ⟨G,i*10+8,none⟩ (.int .i64 k)) g own own:=by obtain⟨rfl,p,q,r,b,v,l,e,m,hb,t,_,_⟩:=a;exact NX p q r (Dh V b) o V (fun j h d _=>b j h d) l ⟨A1,n1,c1,A2,n2,c2,A3,n3,c3,A4,n4,c4,rfl,e,m,hb⟩ h.hd h.inj h.Fs h.out h.lt h.le h.lo
def JS.keep(a:JS w g own L A n c S i G uQ x A1 n1 c1 A2 n2 c2 A3 n3 c3 A4 n4 c4)(h:CK w g own L A n c S)(d:w.heap.size<=w'.heap.size)(hb:∀b,b<w.heap.size->b≠g->w'.heap[b]? =w.heap[b]?):JS w' g own L A n c S i G uQ x A1 n1 c1 A2 n2 c2 A3 n3 c3 A4 n4 c4:=have e:=hb G a.hG.2 (by have:=a.hG.1;omega);⟨a.hA,(h.XP d hb 1).row (j:=0) V a.r1 h.hd,a.r2,a.r3,fun j p q=>(a.r4 j p q).mv (h.XP d hb 0) V V,a.hx,a.Xn,a.ha.mv (h.XP d hb 0),a.hf.mv (h.XP d hb 0) V,a.hb.mv (h.XP d hb 0) V,⟨a.hG.1,by have:=a.hG.2;omega⟩,fun q v l=>(rK (w:=w) (a:=rN G (i*10+q)) e).trans (a.cell q v l),fun q=>(sP (w:=w) (a:=rN G q) e).trans (a.fz q)⟩
def JS.grow(h:CK w g own L A n c S)(a:JS w g own L A n c S i G uQ x A1 n1 c1 A2 n2 c2 A3 n3 c3 A4 n4 c4)(y:i<n){k:Nat}(l:k=2*i+1\/k=2*i+2){B B':aft}(d:B.map (·.block)=own k)(hg:Lu B w w')(o:B'.map (·.block)=B.map (·.block)\/B'.map (·.block)=some w.heap.size)(p:∀b,B'.map (·.block)=some b->g<b/\b<w'.heap.size):∃tT,Mv w w' g k own tT/\tT k=B'.map (·.block)/\some G=tT 0/\(∀i j b,tT i=some b->tT j=some b->i=j)/\(∀j b,tT j=some b->g<b/\b<w'.heap.size)/\(∀j,2*n<j->tT j=none)/\w'.ownsRow (g+1) 79 10 (.slice A n c) n uQ.flatten/\(∀(j:Nat)(h:j<uQ.length)(t:j<S.length),j≠i->SQ w' g tT L j uQ[j] S[j]):=by
 have m:Mv w w' g k own (fun j=>if j=k then B'.map (·.block)else own j):=⟨hg.1,fun b r v l=>hg.2 b r (d▸l),fun j hj=>rB hj,by simp only[uy];rw[<-d];exact o,h.inj,h.Fs⟩;refine⟨_,m,rG rfl,?_,m.ab1,?_,?_,m.row (j:=0) V a.r1 h.hd,fun j hj q z=>(a.r4 j hj q).mv m V V⟩;·rw[rB V,<-h.hd,a.hA];rfl
 ·intro j b e;by_cases hj:j=k;·rw[rG hj]at e;exact p b e
  ·exact oK
 ·intro j hj;rw[rB V];exact h.out j hj
def CK.branch(h:CK w g own L A n c S)(a:JS w g own L A n c S i G uQ x A1 n1 c1 A2 n2 c2 A3 n3 c3 A4 n4 c4)(o:i<n){d:aft}{j:Nat}{k:Int}(ho:w'.ownsRow (g+1) 3 1 (.slice d (n4+1) j) (n4+1) ((xZ x.rX).flatten++[.int .i64 k]))(z:Lu A4 w w')(l:(d.map (·.block)=A4.map (·.block)\/d.map (·.block)=some w.heap.size)/\(w'.os=w.os/\w'.output=w.output))(M:n4<1000):∃tT,CK (w'.setCell ⟨G,i*10+9,none⟩ (.slice d (n4+1) j)) g tT L A n c (S.set i {x with rX:=x.rX++[k]})/\D2 w (w'.setCell ⟨G,i*10+9,none⟩ (.slice d (n4+1) j)) g own tT:=by obtain⟨tT,m,e,t,B,I,out,D,H⟩:=a.grow h o (.inr rfl) a.hb.2.1 z l.1 (fun b hb=>oV);obtain⟨rfl,_,E,F,C,N,r,p,y,hb,K,_,_⟩:=a;have:=NX (x':={x with rX:=x.rX++[k]}) (v:=.slice d (n4+1) j) (q:=9) D E F (Dh V C) o V H r ⟨A1,n1,c1,A2,n2,c2,A3,n3,c3,d,n4+1,j,rfl,p.mv m,y.mv m V,by simpa[xZ]using ho,e.symm,V⟩ t B I out (by have:=h.lt;have:=m.size;omega) h.le (m.lo h.lo);exact⟨tT,this.1,(m.yM l.2).trans this.2⟩
def CK.field(h:CK w g own L A n c S)(a:JS w g own L A n c S i G uQ x A1 n1 c1 A2 n2 c2 A3 n3 c3 A4 n4 c4)(t:i<n){l:aft}{o:Nat}{f:Fd}{cs:List Value}(N:cs.length=9)(H:DB w (IG w g own L) cs f){d:List (List Value)}(D:∀cs∈d,cs.length=9)(E:d.length=x.fields.length)(F:∀(i:Nat)(h:i<d.length)(a0:i<x.fields.length),DB w (IG w g own L) d[i] x.fields[i])(ho:w'.ownsRow (g+1) 82 9 (.slice l (n2+1) o) (n2+1) (d.flatten++cs))(Q:Lu A2 w w')(r:(l.map (·.block)=A2.map (·.block)\/l.map (·.block)=some w.heap.size)/\(w'.os=w.os/\w'.output=w.output))(a5:n2<1000):∃tT,CK (w'.setCell ⟨G,i*10+3,none⟩ (.slice l (n2+1) o)) g tT L A n c (S.set i {x with fields:=x.fields++[f]})/\D2 w (w'.setCell ⟨G,i*10+3,none⟩ (.slice l (n2+1) o)) g own tT:=by
 obtain⟨_,_,_,_,_,K,_⟩:=a.hf;obtain⟨tT,m,e,O,R,Z,out,U,Y⟩:=a.grow h t (.inl rfl) K Q r.1 (fun b hb=>oV);obtain⟨rfl,_,W,X,T,a6,M,I,a2,hb,a1,_,_⟩:=a;have mk:∀{cs f},DB w (IG w g own L) cs f->DB w' (IG w' g tT L) cs f:=fun h=>h.keep (fun _=>m.PU) (fun _ h=>(m.frl h).2)
 have:=NX (x':={x with fields:=x.fields++[f]}) (v:=.slice l (n2+1) o) (q:=3) U W X (Dh V T) t V Y M ⟨A1,n1,c1,l,n2+1,o,A3,n3,c3,A4,n4,c4,rfl,I.mv m,⟨d++[cs],by simpa using ho,by
  intro z tj;rcases sI.1 tj with p|p;·exact D z p
  ·rw[sJ]at p;rw[p];exact N,by simp[E],fun j a3 a4=>
  by
   by_cases y:j<d.length;·rw[vP y,vP V];exact mk (F j y V)
   ·have B:(d++[cs])[j]=cs:=pd;have C:(x.fields++[f])[j]=f:=pd;rw[B,C];exact mk H,e.symm,V⟩,hb.mv m V⟩ O R Z out (by have:=h.lt;have:=m.size;omega) h.le (m.lo h.lo)
 exact⟨tT,this.1,(m.yM r.2).trans this.2⟩
def CK.Mg{L':afu}(h:CK w g own L A n c S)(T:w.heap.size<=w'.heap.size)(hb:∀b,b<w.heap.size->b≠g->¬L b->w'.heap[b]? =w.heap[b]?)(l:∀b,L' b->(L b\/w.heap.size<=b)/\b<w'.heap.size):CK w' g own L' A n c S:=by
 obtain⟨uQ,O,P,Q,R⟩:=h.row;have r:∀b k,own k=some b->w'.heap[b]? =w.heap[b]?:=fun b k e=>hb b (h.Fs k b e).2 (by have:=(h.Fs k b e).1;omega) fun M=>(h.lo b M).2.2 k e
 have m:∀b,IG w g own L b->w'.heap[b]? =w.heap[b]?/\IG w' g own L' b:=fun b d=>
  ⟨hb b d.1.1 d.1.2.1 d.2,⟨by have:=d.1.1;omega,d.1.2.1,d.1.2.2⟩,fun H=>
   by
    rcases(l b H).1 with v|v;·exact d.2 v
    ·have:=d.1.1;omega⟩
 have p:∀q:Addr,IG w g own L q.block->w'.cell? q=w.cell? q:=fun q N=>rK (w:=w) (m _ N).1
 refine⟨⟨uQ,vF O fun b e=>r b 0 (h.hd▸e),P,Q,fun i I K=> ?_⟩,h.hd,h.inj,fun j b e=>⟨(h.Fs j b e).1,by have:=(h.Fs j b e).2;omega⟩,h.out,by have:=h.lt;omega,h.le,fun b o=> ?_⟩;·obtain⟨A1,n1,c1,A2,n2,c2,A3,n3,c3,A4,n4,c4,e,a,⟨E,y,z,B,C,t,D⟩,b⟩:=R i I K;exact⟨A1,n1,c1,A2,n2,c2,A3,n3,c3,A4,n4,c4,e,⟨a.1.keep p (fun b h=>(m b h).2),a.2.1.keep p (fun b h=>(m b h).2),a.2.2⟩,⟨E,vF y fun b e=>r b _ (t▸e),z,B,fun i h F=>(C i h F).keep p (fun b h=>(m b h).2),t,D⟩,vF b.1 fun q e=>r q _ (b.2.1▸e),b.2⟩
 ·rcases(l b o).1 with d|d;·exact⟨(h.lo b d).1,(l b o).2,(h.lo b d).2.2⟩
  ·exact⟨by have:=h.lt;omega,(l b o).2,fun k e=>by have:=(h.Fs k b e).2;omega⟩
def CK.Ft(h:CK w g own L A n c S):tJ w (fun b=>g<b/\b<w.heap.size\/IG w g own L b) A n S:=by obtain⟨uQ,y,z,B,j⟩:=h.row;refine⟨uQ,(Row.xg y (Dh V j) V).keep (fun _ _=>rfl) (fun b hb=>.inl ⟨hb.1,hb.2.1⟩),V,fun i t v=> ?_⟩;obtain⟨A1,n1,c1,A2,n2,c2,A3,n3,c3,A4,n4,c4,e,a,f,b⟩:=j i t v;rw[e];obtain⟨q,d,l,m,o,_,p⟩:=f;refine .mk (a.1.keep (fun _ _=>rfl) fun b hb=>.inr hb) ⟨q,(Row.xg d l V).keep (fun _ _=>rfl) (fun b hb=>.inl ⟨hb.1,hb.2.1⟩),m,fun i h r=>(o i h r).keep (fun _ _=>rfl) fun b hb=>.inr hb⟩ (a.2.1.keep (fun _ _=>rfl) fun b hb=>.inr hb) ((Row.xg b.1 (by simp[xZ]) V).keep (fun _ _=>rfl) (fun b hb=>.inl ⟨hb.1,hb.2.1⟩)) a.2.2.1 (zP d) a.2.2.2.1 (zP b.1) a.2.2.2.2.1 p a.2.2.2.2.2 b.2.2
end
def XM{w:World}{r:Nat}{a b:Int}(d:w.cell? (rN r 0)=some (.int .i64 a))(e:w.cell? (rN r 1)=some (.int .i64 b)):(loadVar 113 ⟨r,0,none⟩).run Tryz.prog w=.ok (.agg #[.int .i64 a,.int .i64 b]) w:=bi
def aat{w:World}{r:Nat}{a b:Int}{d:Func}{p:Tmp}(h:d.results= #[.cell p 113]){e:Array Value}(m:e.getD p undef=sg r)(j:w.cell? (rN r 0)=some (.int .i64 a))(l:w.cell? (rN r 1)=some (.int .i64 b)):(results d e).run Tryz.prog w=.ok (.agg #[.int .i64 a,.int .i64 b]) w:=by rw[zp h,m];simp only[asAddr,vR,ua];exact XM j l
def OO(k i j:Int)(b:Nat)(w:World)(a:Bx w b [.int .i64 i,.int .i64 j]):Calls Tryz.prog 98 #[.int .i64 k,sg b] w (vh w (.agg #[.int .i64 k,.int .i64 j])):=by have sK:=(afw w).al rV (.cells #[.int .i64 0,.int .i64 0] 113);have B1:=sK.yg;have P1:=a.below sK (by obtain⟨t,h⟩:=a;exact ig);go_enter Tryz.func98,Tryz.ntmps98;exact cI
def OP(k i j:Int)(b:Nat)(w:World)(a:Bx w b [.int .i64 i,.int .i64 j]):Calls Tryz.prog 99 #[.int .i64 k,sg b] w (vh w (.agg #[.int .i64 i,.int .i64 k])):=by have sK:=(afw w).al rV (.cells #[.int .i64 0,.int .i64 0] 113);have B1:=sK.yg;have P1:=a.below sK (by obtain⟨t,h⟩:=a;exact ig);go_enter Tryz.func99,Tryz.ntmps99;exact cI
structure Ct(w:World)(tb:Nat)(Y:afu)(AW:aft)(nW cW:Nat)(rW:Int)(AR:aft)(nR cR:Nat)(rR:Int)(mb:Nat)(W R:List Nd)(l:List (Int×Int)):Prop where
 bx:Bx w tb [.slice AW nW cW,.int .i64 rW,.slice AR nR cR,.int .i64 rR,.map (some mb)]
 rw:tJ w Y AW nW W
 rr:tJ w Y AR nR R
 mp:CC w mb l
 yb:∀b,Y b->b<w.heap.size/\b≠mb/\b≠tb
 ne:tb≠mb
def Bx.CG{w:World}{r:Nat}{a:List Value}(h:Bx w r a):r<w.heap.size:=by obtain⟨t,h⟩:=h;exact ig
def Ct.below{w w':World}{v:Nat}{Y:afu}{e:aft}{q m:Nat}{t:Int}{d:aft}{p j:Nat}{r:Int}{o:Nat}{W R:List Nd}{l:List (Int×Int)}(h:Ct w v Y e q m t d p j r o W R l)(hb:afv w w'):Ct w' v Y e q m t d p j r o W R l:=⟨h.bx.below hb h.bx.CG,h.rw.below hb fun b a=>(h.yb b a).1,h.rr.below hb fun b a=>(h.yb b a).1,h.mp.keep (hb.block _ h.mp.lt),fun b a=>⟨rS (h.yb b a).1 hb.size,(h.yb b a).2⟩,h.ne⟩
def SC(f:Nat)(Z:∀args w,(callFunc f args).run Tryz.prog w=.ok (.enter f args) w)(lb:Array Value)(k:Int)(p:Int×Int)(j z m e:Nat)(l:List (Int×Int))(w:World)(v:Bx w z [sg j])(r:Bx w m [.func (.func f) #[] lb])(E:w.cell? (rN j 4)=some (.map (some e)))(M:j<w.heap.size)(y:CC w e l)(C:D5 p.1)(D:D5 p.2)(t:∀w',afv w w'->Calls Tryz.prog f (#[.int .i64 k]++lb) w' (vh w' (.agg #[.int .i64 p.1,.int .i64 p.2]))):Calls Tryz.prog 149 #[.int .i64 k,sg z,sg m] w (vh w (.bool (!l.contains p))):=by
 have N:=y.lt;have O:=v.CG;have I:=r.CG;obtain⟨a1,a2⟩:=p;simp only at C D t;go_enter Tryz.func149,Tryz.ntmps149;go_upto_region 1 with fail;refine sR (K:=Kb (fun b=>b<w.heap.size)) (Kb.keeps _) (sA.of [0,1,2,3,4,5,6,7,8,9] .nil) [6] bm bm bF bm bt (fun wd a tj=> ?_);have T:=(v.below a O).c 0 _ rfl;have B:=(r.below a I).c 0 _ rfl;have Q:=a.cl E M;have R:=y.keep (a.block _ N);have H:=t wd a;have a0:=a.size;have U:=a;clear a tj v r E y t;repeat((first|(refine tp rfl rfl rfl bo ?_)|(refine tF rfl rfl rfl ?_)|(refine tA rfl rfl rfl 0 rV _ (by intro w' hb;have X:=(Kb.cell hb (q:=rN z 0) O).trans T;have a4:=(Kb.cell hb (q:=rN m 0) I).trans B;have a5:=(Kb.cell hb (q:=rN j 4) M).trans Q;clear hb;go_simp;first|done|with_reducible rfl) ?_));simp only[Act.put,rH,rC,rF])
 refine se rfl rfl 0 rV (fun Y F=> ?_);go_wp2_with fail;refine sG H fun a3 o=> ?_
 clear H;go_wp2_with fail;refine F _ _ (fun b hb=>o.block b V) ?_;clear F;have W:=R.keep (o.block e V);clear R T B Q;repeat((first|(refine tp rfl rfl rfl bo ?_)|(refine tF rfl rfl rfl ?_)|(refine tA rfl rfl rfl 0 rV _ (by intro w' hb;have X:=(W.keep (hb e N)).look C D;clear hb;go_simp;first|done|with_reducible rfl) ?_));simp only[Act.put,rH,rC,rF])
 refine sF ?_;go_wp2_with fail;go_ret;exact⟨bA,U.sY rV o⟩
def M0(f:Nat)(H:∀args w,(callFunc f args).run Tryz.prog w=.ok (.enter f args) w)(lb:Array Value)(a:Int->Int×Int)(j:List Int)(X:afu)(A:aft)(n c:Nat)(d o:Nat)(l:List (Int×Int))(w:World)(T:Row w X 1 A n (xZ j))(v:∀b,X b->b<w.heap.size)(O:n<=100000000)(I:w.cell? (rN d 4)=some (.map (some o)))(M:d<w.heap.size)(B:CC w o l)(y:∀b∈j,D5 (a b).1/\D5 (a b).2)(Q:∀b∈j,∀w',afv w w'->Calls Tryz.prog f (#[.int .i64 b]++lb) w' (vh w' (.agg #[.int .i64 (a b).1,.int .i64 (a b).2]))):Calls Tryz.prog 97 #[sg d,.slice A n c,.func (.func f) #[] lb] w (vh w (.bool (j.any fun b=> !l.contains (a b)))):=by
 have e:=((afw w).al rV (.cells #[sg d] 51)).alloc bA (.cells #[.func (.func f) #[] lb] 178);have D:=e.I8;have E:=Bx.new (w.alloc (.cells #[sg d] 51)) #[.func (.func f) #[] lb] 178 (w.heap.size+1) bA;have z:=e.s2;have N:=B.lt;obtain⟨R,q⟩:=sW (j.any fun b=> !l.contains (a b));rw[<-q];have F:=rz q;clear q;go_enter Tryz.func97,Tryz.ntmps97;go_upto_region 1 with fail;generalize(w.alloc _).alloc _=C at*;have HS2:=rz z;have t:w.heap.size<=C.heap.size:=V;clear z;have r:=Bd 149 (enters_of Tryz.func149 bm rfl) #[sg w.heap.size,sg (w.heap.size+1)] (fun b=> !l.contains (a b)) j C X A n c (Row.below T e v) (fun b hb=>rS (v b hb) t) O (fun b hb w' m=>SC f H lb b (a b) d w.heap.size (w.heap.size+1) o l w' (D.below m eH) (E.below m eH) (((e.cell (p:=rN d 4) M).trans I|>(m.cell (p:=rN d 4) bl).trans)) (by have:=m.size;omega) (B.keep ((m.block o V).trans (e.block o N))) (y b hb).1 (y b hb).2 (fun W U=>Q b hb W (e.trans ((m.sY rV U).mono t))));rw[<-F.out]at r;go_wp2_with fail;refine sG r fun Y K=> ?_
 clear r;go_wp2_with fail;go_ret;exact⟨rfl,e.trans (K.mono t)⟩
end Go.Proofs.YtccjlcadbpinfaaGreatDoor.Tp
namespace Go.Proofs.YtccjlcadbpinfaaGreatDoor.Tp
open Num Mem Can
mutual
def xb:J->afs
 | .mk k i t l ks=>if k=1 then [110,117,108,108]else if k=2 then(if i=1 then [116,114,117,101]else [102,97,108,115,101])else if k=3 then zZ i else if k=4 then sB t else if k=5 then 91::((xc l).drop 1++[93])else 123::((wT l ks).drop 1++[125])
def xc:List J->afs
 | []=>[]
 |x::r=>44::(xb x++xc r)
def wT:List J->List afs->afs
 | [],_=>[]
 |_::_,[]=>[]
 |x::r,k::ks=>44::(sB k++58::(xb x++wT r ks))
end
mutual
def Qz:J->Nat
 | .mk _ _ _ l _=>3+LB l
def LB:List J->Nat
 | []=>0
 |x::r=>1+Qz x+LB r
end
def yc{st:St}{s:afs}(h:(xL st s).2=false):st.2=false/\(xL st s).1=st.1++s/\(xL st s).1.length<=20000:=by
 unfold xL at h|-;split;·rename_i a;rw[rG a]at h;cases h
 ·rename_i a;simp only[CL,sd,U5,Ga]at a;exact⟨a.1,rfl,dY⟩
def Mb(i:Nat)(l:afs):afs:=if 0<i then l else l.drop 1
mutual
def FD:∀(j:J)(st:St),(yB j st).2=false->st.2=false/\(yB j st).1=st.1++xb j/\(yB j st).1.length<=20000
 | .mk k i t l ks,st,h=>
 by
  unfold yB at h|-;unfold xb;by_cases b:k=1;·simp only[rG b]at h|-;exact yc h
  simp only[rB b]at h|-;by_cases d:k=2;·simp only[rG d]at h|-;exact yc h
  simp only[rB d]at h|-;by_cases e:k=3;·simp only[rG e]at h|-;exact yc h
  simp only[rB e]at h|-;by_cases m:k=4;·simp only[rG m]at h|-;exact yc h
  simp only[rB m]at h|-;by_cases o:k=5;·simp only[rG o]at h|-;obtain⟨a,h2,h3⟩:=yc h;obtain⟨h4,h5⟩:=JM l 0 _ a;exact j6
  ·simp only[rB o]at h|-;obtain⟨a,h2,h3⟩:=yc h;obtain⟨h4,h5⟩:=JN l ks 0 _ a;exact j6
def JM:∀(l:List J)(i:Nat)(st:St),(DE l i st).2=false->st.2=false/\(DE l i st).1=st.1++Mb i (xc l)
 | [],i,st,h=>⟨h,by simp[DE,xc,Mb]⟩
 |x::r,i,st,h=>
 by
  unfold DE at h|-;obtain⟨d,e⟩:=JM r (i+1) _ h;obtain⟨a,j,_⟩:=FD x _ d;rw[e,j];unfold IM at a|-;rw[show xc (x::r)=44::(xb x++xc r)by simp only[xc]];unfold Mb;by_cases b:0<i;·simp only[rG b]at a|-;obtain⟨m,o,_⟩:=yc a;exact⟨m,by rw[o];simp⟩
  ·simp only[rB b]at a|-;exact⟨a,bA⟩
def JN:∀(l:List J)(ks:List afs)(i:Nat)(st:St),(Bb l ks i st).2=false->st.2=false/\(Bb l ks i st).1=st.1++Mb i (wT l ks)
 | [],ks,i,st,h=>⟨by simpa[Bb]using h,by simp[Bb,wT,Mb]⟩
 |_::_,[],i,st,h=>⟨by simpa[Bb]using h,by simp[Bb,wT,Mb]⟩
 |x::r,k::ks,i,st,h=>
 by
  unfold Bb at h|-;obtain⟨d,e⟩:=JN r ks (i+1) _ h;obtain⟨j,m,_⟩:=FD x _ d;obtain⟨a,q,_⟩:=yc j;rw[e,m,q];unfold IM at a|-;rw[show wT (x::r) (k::ks)=44::(sB k++58::(xb x++wT r ks))by simp only[wT]];unfold Mb;by_cases b:0<i;·simp only[rG b]at a|-;obtain⟨o,p,_⟩:=yc a;exact⟨o,by rw[p];simp⟩
  ·simp only[rB b]at a|-;exact⟨a,bA⟩
end
def H7{j:J}{own:afs}(h:zo j=.ok own):ue j 0=true/\own=xb j/\own.length<=20000:=by
 unfold zo at h;split at h
 ·rename_i d;split at h;·cases h
  ·rename_i a;simp only[Ga]at a;injection h with h;obtain⟨_,h3,b⟩:=FD j _ a;rw[<-h];exact⟨d,kY,b⟩
 ·cases h
def U4{ks:List afs}(h:(Lib.compact (yA ks)).length=ks.length):ks.Nodup:=by
 have q:(yA ks).Perm ks:=List.mergeSort_perm _ _;have o:(yA ks).Pairwise (fun x y=>x<=y):=by have:=List.pairwise_mergeSort (le:=fun x y:afs=>decide (x<=y)) (fun a b c m d=>by simp only[sd]at*;exact List.le_trans m d) (fun a b=>by simp only[CL,sd];exact List.le_total a b) ks;exact this.imp (fun h=>eK)
 rw[<-q.nodup_iff];rw[<-q.length_eq]at h;generalize yA ks=l at*;have v:∀j,j<l.length->Lib.keeps l.toArray j=true:=by unfold Lib.compact Lib.compactUpTo at h;rw[tN]at h;have d:(List.range l.length).filter (Lib.keeps l.toArray)=List.range l.length:=List.Sublist.eq_of_length List.filter_sublist (by rw[h,List.length_range]);intro j hj;have h3:=List.filter_eq_self.1 d;exact h3 j (List.mem_range.2 hj)
 rw[List.nodup_iff_pairwise_ne,zU];intro i j t hj z r;have e:=v j hj;unfold Lib.keeps at e;simp only[sd]at e;rcases e with rfl|e;·omega
 ·apply e;rw[zU]at o;have m:l[j-1]<=l[j]:=o (j-1) j V hj V;have d:l[i]<=l[j-1]:=by
   rcases tE i (j-1)with p|p;·exact o i (j-1) t V p
   ·have:i=j-1:=V;subst this;exact List.le_refl _
  rw[r]at d;have h3:=List.le_antisymm d m;rw[getElem!_pos l.toArray j fK,getElem!_pos l.toArray (j-1) (by simp;omega)];exact kY
def GV(xs:afs)(j:J)(d:Nat):Prop:=∀(a:Nat)(r:afs),xs.drop a=xb j++r->Ea r->∃w:Wd,sH xs a=.ok w/\w.kind≠4/\w.kind≠2/\∀f,Qz j<=f->wU xs f w d=some (.ok (j,a+(xb j).length))
def VF(l:List J)(r:afs):Ea (xc l++93::r):=by
 intro c s h;cases l with
 |nil=>exact nj
 |cons x y=>unfold xc at h;exact nj
def aaB(l:List J)(ks:List afs)(r:afs):Ea (wT l ks++125::r):=by
 intro c s h;cases l with
 |nil=>unfold wT at h;exact nj
 |cons x y=>
  cases ks with
  |nil=>unfold wT at h;exact nj
  |cons k ks=>unfold wT at h;exact nj
def Qb{xs:afs}{d:Nat}:∀(l:List J),(∀x∈l,GV xs x d)->∀(x:J),GV xs x d->∀(e:List J)(a:Nat)(r:afs),xs.drop a=xb x++(xc l++93::r)->∃w,sH xs a=.ok w/\w.kind≠4/\w.kind≠2/\∀f,LB (x::l)<=f->C1 xs f w d e=some (.ok (.mk 5 0 [] (e++x::l) [],a+(xb x++xc l).length+1))
 | [],_,x,t,e,a,r,h=>by obtain⟨w,q,o,m,p⟩:=t a _ h (VF [] r);refine⟨w,q,o,m,fun f hf=> ?_⟩;obtain⟨f,rfl⟩:∃j,f=j+1:=⟨f-1,fd⟩;have b:=AE h;simp only[xc,so]at b;rw[C1,p f fd];simp only;rw[xN 3 b bF bH];simp[xc]
 |y::l,v,x,t,e,a,r,h=>by obtain⟨w,q,o,m,p⟩:=t a _ h (VF (y::l) r);refine⟨w,q,o,m,fun f hf=> ?_⟩;obtain⟨f,rfl⟩:∃j,f=j+1:=⟨f-1,fd⟩;have b:=AE h;simp only[xc,si,sw]at b;have B:=xq b;obtain⟨F,D,_,_,C⟩:=Qb l (fun z E=>v z (uS _ E)) y (v y (uj ..)) (e++[x]) _ r B.2.1;rw[C1,p f fd];simp only;rw[xN 5 b bF bH];simp only[show(1+((5:Nat):Int)=6)from bH,uy];rw[D];simp only;rw[C f (by simp only[LB]at hf|-;omega)];simp only[xc,sw,si,so,rL,rP];simp only[show¬(6:Int)=4 from bH,xy];congr 3;omega
def Mh{xs:afs}{d:Nat}:∀(l:List J)(ks:List afs),ks.length=l.length->(∀x∈l,GV xs x d)->(∀k∈ks,yX k=true)->∀(x:J)(k:afs),GV xs x d->yX k=true->∀(m:List J)(b:List afs)(a:Nat)(r:afs),(b++k::ks).Nodup->xs.drop a=sB k++58::(xb x++(wT l ks++125::r))->∃w,sH xs a=.ok w/\w.kind=10/\∀f,LB (x::l)<=f->Ae xs f w d m b=some (.ok (.mk 6 0 [] (m++x::l) (b++k::ks),a+(sB k++58::(xb x++wT l ks)).length+1))
 |l,ks,p,C,B,x,k,T,F,m,b,a,r,q,h=>
 by
  have O:=JK h F;refine⟨_,O,rfl,fun f hf=> ?_⟩;obtain⟨f,rfl⟩:∃E,f=E+1:=⟨f-1,fd⟩;have v:=AE h;have D:=xq v;obtain⟨w,Q,_,_,M⟩:=T _ _ D.2.1 (aaB l ks r);have j:=AE D.2.1;have H:b.contains k=false:=by
   rw[List.nodup_append]at q;have:=q.2.2;cases K:b.contains k with
   |false=>rfl
   |true=>exact absurd rfl (this k (BX.1 K) k (uj ..))
  rw[Ae];simp only[ne_eq,not_true,xy,H];rw[xN 4 v bF bH];simp only[show(1+((4:Nat):Int))=5 from bH,not_true,xy];rw[Q];simp only;rw[M f fd];simp only;cases l with
  |nil=>obtain rfl:ks=[]:=rT p;simp only[wT,so]at j;rw[xN 1 j bF bH];simp only[show(1+((1:Nat):Int))=2 from bH,uy,wT,sX,rL,rP];simp only[ym,xy];congr 3;omega
  |cons y l=>
   cases ks with
   |nil=>simp at p
   |cons o ks=>simp only[wT,si,sw]at j;have I:=xq j;have e:(b++[k])++o::ks=b++k::o::ks:=bA;obtain⟨W,R,U,N⟩:=Mh l ks (by simpa using p) (fun z t=>C z (uS _ t)) (fun z t=>B z (uS _ t)) y o (C y (uj ..)) (B o (uj ..)) (m++[x]) (b++[k]) _ r (by rw[e];exact q) I.2.1;rw[xN 5 j bF bH];simp only[show(1+((5:Nat):Int)=6)from bH,uy];rw[R];simp only;rw[N f (by simp only[LB]at hf|-;omega)];simp only[wT,sw,si,so,rL,rP];simp only[show¬(6:Int)=2 from bH,ym,xy];congr 3;omega
def Yu{xs:afs}:∀(N:Nat)(j:J),SizeOf.sizeOf j<=N->yF j->∀d,d<=32->ue j d=true->GV xs j d:=by
 intro N;induction N with
 |zero=>exact fq
 |succ N Q=>
  intro j hj a7 d a9 C;cases a7 with
  |mk ab aa Z a1 a8 H=>
   rename_i k i t l ks;have K:∀x∈l,SizeOf.sizeOf x<=N:=by intro x hx;exact kL
   unfold ue at C;rw[rO,rO,rO]at C;obtain⟨⟨⟨hb,b⟩,F⟩,M⟩:=C;intro a r h q;unfold Aa at hb;unfold xb at h|-;unfold Bp at b;by_cases R:k=1;·subst R;simp at hb b h|-;obtain⟨⟨rfl,rfl⟩,rfl⟩:=hb;subst b;have hw:=FA (s:=[110,117,108,108]) 8 0 h q (.inr (.inr ⟨rfl,rfl,rfl⟩));exact nk
   simp only[rB R]at hb h|-;by_cases T:k=2
   ·subst T;simp at hb b;obtain⟨⟨a3,rfl⟩,rfl⟩:=hb;subst b;rcases a3 with rfl|rfl;·simp at h|-;have hw:=FA (s:=[102,97,108,115,101]) 7 0 h q (.inr (.inl ⟨rfl,rfl,rfl⟩));exact nk
    ·simp at h|-;have hw:=FA (s:=[116,114,117,101]) 7 1 h q (.inl ⟨rfl,rfl,rfl⟩);exact nk
   simp only[rB T]at hb h|-;by_cases U:k=3;·subst U;simp at hb b h|-;obtain⟨rfl,rfl⟩:=hb;subst b;have hw:=VJ h q Z a1;exact nk
   simp only[rB U]at hb h|-;by_cases W:k=4;·subst W;simp at hb b h|-;obtain⟨⟨rfl,rfl⟩,a6⟩:=hb;subst b;have hw:=JK h a6;exact nk
   simp only[rB W]at hb h|-;rw[AI]at M;have O:∀x∈l,ue x (d+1)=true:=by simpa using M
   by_cases X:k=5
   ·subst X;simp at hb b F;obtain⟨rfl,rfl⟩:=hb;subst b;simp only[uy]at h|-;rw[si]at h;have m:∀x∈l,GV xs x (d+1):=fun x hx=>Q x (K x hx) (H x hx) (d+1) V (O x hx)
    have hw:=xN 2 h bF bH;have o:=xq h;refine⟨_,hw,bA,bA,fun f hf=> ?_⟩;obtain⟨f,rfl⟩:∃f',f=f'+1+1:=⟨f-2,dN⟩;have y:¬d=32:=V;have v:wU xs (f+1+1) ⟨1+((2:Nat):Int),0,[],a,a+1⟩ d=FR xs (f+1) (a+1) (d+1):=by rw[wU];simp[y]
    rw[v,FR];cases l with
    |nil=>have e:=o.2.1;simp only[xc,List.drop_nil,so,si]at e;rw[xN 3 e bF bH];simp[xc]
    |cons x l=>have e:=o.2.1;simp only[xc,zV,zf,sw,si,so]at e;obtain⟨w,E,a2,_,D⟩:=Qb l (fun z p=>m z (uS _ p)) x (m x (uj ..)) [] _ r e;rw[E];simp only[rB a2];rw[D f dN];simp only[xc,zV,zf,so,rL,rP,sl];congr 3;omega
   ·simp only[rB X]at h|-;have Y:k=6:=by apply D3;intro Y;rw[rB (by rintro(h|h)<;>contradiction)]at hb;cases hb
    subst Y;simp at hb b F;obtain⟨rfl,rfl⟩:=hb;obtain⟨⟨B,a4⟩,I⟩:=b;have a5:=U4 a4;rw[si]at h;have m:∀x∈l,GV xs x (d+1):=fun x hx=>Q x (K x hx) (H x hx) (d+1) V (O x hx)
    have hw:=xN 0 h bF bH;have o:=xq h;refine⟨_,hw,bA,bA,fun f hf=> ?_⟩;obtain⟨f,rfl⟩:∃f',f=f'+1+1:=⟨f-2,dN⟩;have y:¬d=32:=V;have v:wU xs (f+1+1) ⟨1+((0:Nat):Int),0,[],a,a+1⟩ d=MK xs (f+1) (a+1) (d+1):=by rw[wU];simp[y]
    rw[v,MK];cases l with
    |nil=>obtain rfl:ks=[]:=rT B;have e:=o.2.1;simp only[wT,List.drop_nil,so,si]at e;rw[xN 1 e bF bH];simp[wT]
    |cons x l=>
     cases ks with
     |nil=>simp at B
     |cons k ks=>have e:=o.2.1;simp only[wT,zV,zf,sw,si,so]at e;obtain⟨w,E,a0,D⟩:=Mh l ks (by simpa using B) (fun z p=>m z (uS _ p)) (fun z p=>I z (uS _ p)) x k (m x (uj ..)) (I k (uj ..)) [] [] _ r (by simpa using a5) e;rw[E];simp only;rw[rB (by rw[a0];decide),D f dN];simp only[wT,zV,zf,so,rL,rP,sl];congr 3;omega
end Go.Proofs.YtccjlcadbpinfaaGreatDoor.Tp
namespace Go.Proofs.YtccjlcadbpinfaaGreatDoor.Tp
open ChangeShapes WideShapes ChangeAt RowKit
open Num Mem Can
def MI:∀(l:afs)(N:Int)(O:Bool), -9223372036854775808<=N->N<=0-> -9223372036854775808<=(zO l N O).1/\(zO l N O).1<=0
 | [],N,O,a,b=>⟨a,b⟩
 |c::r,N,O,a,b=>
 by
  unfold zO;split;·rename_i d;have:=H4 (O:=O) a b d;exact MI r _ _ this.1 this.2
  ·exact⟨a,b⟩
def acW(xs:afs)(a:Nat): -9223372036854775808<=RY xs a/\RY xs a<=9223372036854775807:=by
 have h:=MI (xs.drop (x6 xs a)) 0 false V V;unfold RY OM;split;·omega
 ·unfold wrap64;omega
def NI(xs:afs)(b:Nat)(R:Option (Except Int (J×Nat))):Prop:=∃r,R=some r/\∀j a,r=.ok (j,a)->b<=a/\a<=xs.length/\yF j
def NI.err{xs:afs}{b:Nat}{e:Int}:NI xs b (some (.error e)):=⟨_,rfl,fun j a h=>dM⟩
def NI.ok{xs:afs}{b a:Nat}{j:J}(d:b<=a)(l:a<=xs.length)(h:yF j):NI xs b (some (.ok (j,a))):=⟨_,rfl,fun o m e=>by injection e with e;injection e with e1 e2;subst e1 e2;exact⟨d,l,h⟩⟩
def NI.mono{xs:afs}{b d:Nat}{R:Option (Except Int (J×Nat))}(h:NI xs b R)(hb:d<=b):NI xs d R:=by obtain⟨r,l,m⟩:=h;exact⟨r,l,fun j a e=>by have:=m j a e;exact⟨V,this.2⟩⟩
def Lo(k i:Int)(t:afs)(d:t.length<=1000000)(a: -9223372036854775808<=i)(b:i<=9223372036854775807):yF (.mk k i t [] []):=.mk d bA a b bA bA
def Lp(l:List J)(a:∀x∈l,yF x):yF (.mk 5 0 [] l []):=.mk bA bA bA bA bA a
def It(l:List J)(ks:List afs)(b:∀x∈l,yF x)(a:∀x∈ks,x.length<=1000000)(h:ks.length=l.length):yF (.mk 6 0 [] l ks):=.mk bA a bA bA (fun _=>h) b
def Wp:∀(N:Nat)(j:J),SizeOf.sizeOf j<=N->yF j->tS j:=by
 intro N;induction N with
 |zero=>exact fq
 |succ N b=>
  intro j hj h;cases h with
  |mk m hk d e l a=>refine .mk V (fun x hx=>iJ) (fun x hx=>b x ?_ (a x hx));exact kL
def yF.small{j:J}(h:yF j):tS j:=Wp _ j rV h
