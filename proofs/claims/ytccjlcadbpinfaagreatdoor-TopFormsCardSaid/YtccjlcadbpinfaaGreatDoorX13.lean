import Derived.Test.YtccjlcadbpinfaaGreatDoorX9
set_option linter.all false
namespace Go.Proofs.YtccjlcadbpinfaaGreatDoor.Can
open Go.RowKit
section
variable{P:Program}{ops:Array Oper}{Q:Exit->Act->World->Prop}{S S':World->Prop}{b:Nat}
def yE(P:Program)(ops:Array Oper)(Q:Exit->Act->World->Prop)(b:Nat)(S:World->Prop):Nat->Array Bool->Act->World->Prop
 |0,d,a,w=>Region.ready .any ops d=[]/\Q .normal a w
 |fuel+1,d,a,w=>(Region.ready .any ops d=[]->Q .normal a w)/\∀i∈Region.ready .any ops d,wpOp P ops Q i (fun e w'=>((d.setIfInBounds i true).getD b true=true\/S w')/\yE P ops Q b S fuel (d.setIfInBounds i true) e w') a w
def H0:∀(d:Nat)(e:Array Bool)(a:Act)(w:World),yE P ops Q b S d e a w->wpAny P .any ops Q d e a w
 |0,_,_,_,h=>h
 |d+1,_,_,_,h=>⟨h.1,fun i k=>uB (fun g w' j=>H0 d _ g w' j.2) (h.2 i k)⟩
def EA(h:∀w,S' w->S w):∀(d:Nat)(g:Array Bool)(a:Act)(w:World),yE P ops Q b S' d g a w->yE P ops Q b S d g a w
 |0,_,_,_,hh=>hh
 |d+1,_,_,_,hh=>⟨hh.1,fun i k=>uB (fun j w' e=>⟨e.1.imp id (h _),EA h d _ j w' e.2⟩) (hh.2 i k)⟩
def zd{a:Array Bool}{i b:Nat}(h:a.getD b true=true):(a.setIfInBounds i true).getD b true=true:=by
 by_cases d:i=b;·subst d;by_cases e:i<a.size<;>simp[e]
 ·rw[getD_set_ne true d];exact h
def Iy:∀(d:Nat)(e:Array Bool)(a:Act)(w:World),e.getD b true=true->wpAnyH P .any ops Q S' d e a w->yE P ops Q b S d e a w
 |0,_,_,_,_,h=>h
 |d+1,_,_,_,hb,h=>⟨h.1,fun i k=>uB (fun g w' j=>⟨.inl (zd hb),Iy d _ g w' (zd hb) j.2⟩) (h.2 i k)⟩
def OD{i:Nat}{d:Oper}{v:Value}{S1:World->Prop}{Inv:Array Bool->Prop}(hi:ops[i]? =some d)(q:∀(j:Nat)(r:Oper) cs b,ops[j]? =some r->r.op≠ .select cs b)(z:∀c a w,Q (.panic c) (a.put d.dst v) w->Q (.panic c) a w)(VF:i≠b)(y:∀(listed:Array Bool) j,Inv listed->j∈Region.ready .any ops listed->j≠i->Inv (listed.setIfInBounds j true))(hS1:∀(listed:Array Bool) w,Inv listed->(listed.getD b true=true\/S w)->S1 w):∀(l:Nat)(listed:Array Bool)(a:Act)(w:World),(∀j g,ops[j]? =some g->j≠i->listed.getD j true=false->(∀e∈g.after,Region.binds .any e=true->e.on≠i)->d.apart ops g=true)->i∈Region.ready .any ops listed->YieldsIf P ops S1 d v a->Inv listed->(listed.getD b true=true\/S w)->yE P ops Q b S l (listed.setIfInBounds i true) (a.put d.dst v) w->yE P ops Q b S (l+1) listed a w:=by
 intro l;induction l with
 |zero=>
  intro listed a w _ hr hy hv hS H;refine⟨fun h=>jw,fun j m=> ?_⟩;by_cases Em:j=i;·exact oC
  ·have:=Hr m Em;rw[H.1]at this;cases this
 |succ l C=>
  intro listed a w OY hr hy hv hS H;refine⟨fun h=>jw,fun j m=> ?_⟩;by_cases Em:j=i;·exact oC
  ·have h1:=H.2 j (Hr m Em);obtain⟨VI,g,o,Vy⟩:=mem_ready.1 m;have B:∀e∈g.after,Region.binds .any e=true->e.on≠i:=fun e he hb heq=>dO
   have x:=wpOp_putIf o (OY j g o Em VI B) (fun cs b=>q i d cs b hi) (fun cs b=>q j g cs b o) z hy h1;have A:∀k ok,ops[k]? =some ok->k≠i->(listed.setIfInBounds j true).getD k true=false->(∀e∈ok.after,Region.binds .any e=true->e.on≠i)->d.apart ops ok=true:=fun k ok hk hki hun hno=>fo
   have p:∀w',(((listed.setIfInBounds i true).setIfInBounds j true).getD b true=true\/S w')->((listed.setIfInBounds j true).getD b true=true\/S w'):=fun w' h=>gZ
   refine uB (fun t w' n=>⟨p _ n.2.1,C (listed.setIfInBounds j true) t w' A (Hr hr (Cc Em)) n.1 (y _ _ hv m Em) (p _ n.2.1) ?_⟩) x;rw[Array.setIfInBounds_comm _ _ Em];exact n.2.2
def BF(ops:Array Oper):Nat->List Nat->Bool
 |_,[]=>true
 |i,q::r=>(match ops[q]? with|some a=>a.after.any (fun e=>Region.binds .any e&&e.on==i)|none=>false)&&BF ops q r
def GL:∀(l:List Nat)(i:Nat),BF ops i l=true->∀q∈l,∃p∈i::l,∃g,ops[q]? =some g/\∃e∈g.after,Region.binds .any e=true/\e.on=p
 | [],_,_,_,a=>by cases a
 |c::r,i,h,q,a=>
 by
  simp only[BF,rG]at h;rcases sg.1 a with rfl|a
  ·refine⟨i,bi,?_⟩;have d:=h.1;cases j:ops[q]? with
   |none=>rw[j]at d;cases d
   |some g=>rw[j]at d;obtain⟨e,n,hb⟩:=Array.any_eq_true'.1 d;simp only[rG,tB]at hb;exact⟨g,rfl,e,n,hb.1,hb.2⟩
  ·obtain⟨p,k,m⟩:=GL r c h.2 q a;exact⟨p,by simp only[sg]at k|-;exact .inr k,m⟩
def Nx{e:Array Bool}{p:Nat}(a:e.getD p false=true)(g:e.getD p true=false):False:=by
 rcases sX p e.size with d|d;·simp[d]at g a;rw[g]at a;cases a
 ·simp[Array.getElem?_eq_none d]at a
def Xt{i:Nat}{g:Oper}{v:Value}{k:Nat}{d:Array Bool}{a:Act}{w:World}(m:ops[i]? =some g)(x:Region.noSelect ops=true)(t:Region.free .any ops d i=true)(hr:(Region.ready .any ops d).contains i=true)(VF:(i !=b)=true)(l:List Nat)(OU:BF ops i l=true)(y:(i::l).all (fun q=> !d.getD q true)=true)(hl:l.contains b=true)(n:∀c a w,Q (.panic c) (a.put g.dst v) w->Q (.panic c) a w)(z:YieldsIf P ops S g v a)(r:S w)(h:yE P ops Q b S k (d.setIfInBounds i true) (a.put g.dst v) w):yE P ops Q b S (k+1) d a w:=by
 refine OD (S1:=S) (Inv:=fun YU=>∀q∈i::l,YU.getD q true=false) m (yP x) n je ?_ ?_ k d a w (BB m t) iR z ?_ (.inr r) h;·exact cm
 ·intro YU w' hv hc;exact fK
 ·intro q hq;have:=vY.1 y q hq;exact fg
def Lc{i:Nat}{e:Oper}{v:Value}{g:Nat}{d:Array Bool}{a:Act}{w:World}(j:ops[i]? =some e)(n:Region.noSelect ops=true)(m:Region.free .any ops d i=true)(hr:(Region.ready .any ops d).contains i=true)(VF:(i !=b)=true)(k:∀c a w,Q (.panic c) (a.put e.dst v) w->Q (.panic c) a w)(o:YieldsIf P ops (fun _=>True) e v a)(l:S w)(h:yE P ops Q b S g (d.setIfInBounds i true) (a.put e.dst v) w):yE P ops Q b S (g+1) d a w:=OD (S1:=fun _=>True) (Inv:=fun _=>True) j (yP n) k je (fun _ _ _ _ _=>trivial) (fun _ _ _ _=>trivial) g d a w (BB j m) iR o trivial (.inr l) h
def Sr{e:List Nat}{g:Nat}{d:Array Bool}{a:Act}{w:World}(j:Region.ready .any ops d=e)(m:e≠ [])(h:∀i∈e,wpOp P ops Q i (fun k w'=>((d.setIfInBounds i true).getD b true=true\/S w')/\yE P ops Q b S g (d.setIfInBounds i true) k w') a w):yE P ops Q b S (g+1) d a w:=⟨fun l=>absurd (j▸l) m,j▸h⟩
end
def SU(ops:Array Oper)(b:Nat):Nat->Nat->Option (List Nat)
 |0,_=>none
 |f+1,i=>(List.range ops.size).findSome? fun q=>if(match ops[q]? with|some a=>a.after.any (fun e=>Region.binds .any e&&e.on==i)|none=>false)=true then(if q=b then some [b]else(SU ops b f q).map (q::·))else none
def WU(ops:Array Oper)(mk rd:List Nat)(b:Nat)(σ2:sk):sk->Array Bool->Bool
 | .nil,a=>Region.ready .any ops a== [b]&&(b<a.size)&&Ak ops mk σ2 (a.setIfInBounds b true)
 | .cons i p,a=>(if mk.contains i then Region.ready .any ops a== [i]else(i !=b)&&Region.free .any ops a i&&(Region.ready .any ops a).contains i&&(!rd.contains i||match SU ops b ops.size i with|some l=>BF ops i l&&(i::l).all (fun q=> !a.getD q true)&&l.contains b|none=>false))&&WU ops mk rd b σ2 p (a.setIfInBounds i true)
 | .fork i p j q,a=>Region.ready .any ops a== [i,j]&&WU ops mk rd b σ2 p (a.setIfInBounds i true)&&WU ops mk rd b σ2 q (a.setIfInBounds j true)
section
variable{P:Program}{ops:Array Oper}{Q:Exit->Act->World->Prop}{mk rd:List Nat}{b:Nat}{σ2:sk}{K:Nat->World->World->Prop}
def zF(P:Program)(ops:Array Oper)(Q:Exit->Act->World->Prop)(mk rd:List Nat)(b:Nat)(σ2:sk)(K:Nat->World->World->Prop):sk->Nat->Act->World->Prop
 | .nil,_,a,w=>wpOp P ops Q b (fun e w'=>wy P ops Q mk (fun _ _ _=>True) σ2 0 e w') a w
 | .cons i p,h,a,w=>∃g,ops[i]? =some g/\∃d,h<=d/\if mk.contains i then wpOp P ops Q i (fun e w'=>K d w w'/\zF P ops Q mk rd b σ2 K p d e w') a w else if rd.contains i then∃v,YieldsIf P ops (K d w) g v a/\zF P ops Q mk rd b σ2 K p d (a.put g.dst v) w else∃v,YieldsIf P ops (fun _=>True) g v a/\zF P ops Q mk rd b σ2 K p d (a.put g.dst v) w
 | .fork i p j q,h,a,w=>∃d,h<=d/\wpOp P ops Q i (fun e w'=>K d w w'/\zF P ops Q mk rd b σ2 K p d e w') a w/\wpOp P ops Q j (fun e w'=>K d w w'/\zF P ops Q mk rd b σ2 K q d e w') a w
def CW(m:zZ K)(y:Region.noSelect ops=true)(o:∀c(a:Act) d v w,Q (.panic c) (a.put d v) w->Q (.panic c) a w):∀(E:sk)(e F:Nat)(z:Array Bool)(a:Act)(w:World),E.deep+1+σ2.deep<=e->WU ops mk rd b σ2 E z=true->zF P ops Q mk rd b σ2 K E F a w->yE P ops Q b (K F w) e z a w
 | .nil,e,F,z,a,w,hf,r,h=>
 by
  obtain⟨e,rfl⟩:∃k,e=k+1:=⟨e-1,V⟩;simp only[sk.deep]at hf;simp only[WU,rG,tB,rQ]at r;obtain⟨⟨G,a3⟩,C⟩:=r;have O:(z.setIfInBounds b true).getD b true=true:=by simp[a3]
  refine Sr G bi fun j hj=> ?_
  obtain rfl:j=b:=fu;refine uB (fun A w' g=>⟨.inl O,?_⟩) h;exact Iy _ _ _ _ O (xT (K:=fun _ _ _=>True) ⟨fun _ _=>trivial,fun _ _=>trivial,fun _ _=>trivial⟩ y o σ2 e 0 _ A w' V C g)
 | .cons i E,e,F,z,a,w,hf,r,h=>
 by
  obtain⟨e,rfl⟩:∃k,e=k+1:=⟨e-1,eI⟩;simp only[sk.deep]at hf;obtain⟨a5,U,n,I,D⟩:=h;simp only[WU,rG]at r;obtain⟨B,C⟩:=r;refine EA (S':=K n w) (fun w' hb=>m.mono hb I) _ _ _ _ ?_;by_cases X:mk.contains i=true
  ·rw[rv X]at B D;have G:Region.ready .any ops z=[i]:=by simpa using B
   refine Sr G bi fun j hj=> ?_
   obtain rfl:j=i:=fu;refine uB (fun A w' g=>⟨.inr g.1,?_⟩) D;exact EA (fun x H=>m.trans g.1 H) _ _ _ _ (CW m y o E e n _ A w' V C g.2)
  ·rw[ru X]at B D;simp only[rG]at B;obtain⟨⟨⟨W,T⟩,Y⟩,t⟩:=B;by_cases L:rd.contains i=true
   ·rw[rv L]at D;obtain⟨v,N,M⟩:=D;rw[L]at t;simp only[tl,tU]at t;split at t;·rename_i l a4;simp only[rG]at t;exact Xt U y T Y W l t.1.1 t.1.2 t.2 (fun c a w=>o c a _ v w) N (m.refl _ _) (CW m y o E e n _ _ w V C M)
    ·cases t
   ·rw[ru L]at D;obtain⟨v,N,M⟩:=D;exact Lc U y T Y W (fun c a w=>o c a _ v w) N (m.refl _ _) (CW m y o E e n _ _ w V C M)
 | .fork i p j q,e,F,z,a,w,hf,r,h=>
 by
  obtain⟨e,rfl⟩:∃k,e=k+1:=⟨e-1,eI⟩;simp only[sk.deep]at hf;obtain⟨n,I,Z,a0⟩:=h;simp only[WU,rG]at r;obtain⟨⟨a1,B⟩,C⟩:=r;refine EA (S':=K n w) (fun w' hb=>m.mono hb I) _ _ _ _ ?_;have G:Region.ready .any ops z=[i,j]:=by simpa using a1
  refine Sr G bi fun k hk=> ?_
  have a2:k=i\/k=j:=jx;rcases a2 with rfl|rfl;·refine uB (fun A w' g=>⟨.inr g.1,?_⟩) Z;exact EA (fun x H=>m.trans g.1 H) _ _ _ _ (CW m y o p e n _ A w' V B g.2)
  ·refine uB (fun A w' g=>⟨.inr g.1,?_⟩) a0;exact EA (fun x H=>m.trans g.1 H) _ _ _ _ (CW m y o q e n _ A w' V C g.2)
def vS(g:zZ K){n:Nat}{a:Act}{w:World}(e:sk)(b:Nat)(σ2:sk)(mk rd:List Nat)(l:P.follows .mixedOrders=true)(m:Region.noSelect ops=true)(k:e.deep+1+σ2.deep<=ops.size)(j:WU ops mk rd b σ2 e (Array.replicate ops.size false)=true)(i:∀c(a:Act) d v w,Q (.panic c) (a.put d v) w->Q (.panic c) a w)(h:∀wd:World,acP w wd->wd.heap.size=w.heap.size->zF P ops Q mk rd b σ2 K e 0 a wd):(Code.region n ops true).wp P Q a w:=wp_region_any l (H0 (b:=b) (S:=K 0 w.drew) _ _ _ _ (CW g m i e _ 0 _ a _ k j (h w.drew vK.drew rfl)))
def wG{i:Nat}{m:sk}{e:Nat}{a:Act}{w:World}{d:Option Tmp}{k:Op}{ty:TypeId}{l:String}{g:Array Edge}{j:Option (Nat×Bool)}(p:mk.contains i=false)(n:rd.contains i=false)(o:ops[i]? =some ⟨d,k,ty,l,g,j⟩)(hw:Region.wanted ⟨d,k,ty,l,g,j⟩ (yielded ops a.tmps)=true){v:Value}(hy:∀w',(execOp a.eval ⟨d,k,ty,l,g,j⟩).run P w'=.ok (.value v) w')(h:zF P ops Q mk rd b σ2 K m e (a.put d v) w):zF P ops Q mk rd b σ2 K (.cons i m) e a w:=⟨_,o,e,rN _,by rw[p,ru bi,n,ru bi];exact iI⟩
def wH{i:Nat}{n:sk}{m:Nat}{a:Act}{w:World}{e:Option Tmp}{k:Op}{ty:TypeId}{l:String}{g:Array Edge}{j:Option (Nat×Bool)}(hm:mk.contains i=false)(hd:rd.contains i=true)(p:ops[i]? =some ⟨e,k,ty,l,g,j⟩)(hw:Region.wanted ⟨e,k,ty,l,g,j⟩ (yielded ops a.tmps)=true)(d:Nat)(o:m<=d)(v:Value)(hy:∀w',K d w w'->(execOp a.eval ⟨e,k,ty,l,g,j⟩).run P w'=.ok (.value v) w')(h:zF P ops Q mk rd b σ2 K n d (a.put e v) w):zF P ops Q mk rd b σ2 K (.cons i n) m a w:=⟨_,p,d,o,oq⟩
def wI{i:Nat}{m:sk}{d:Nat}{a:Act}{w:World}{e:Option Tmp}{k:Op}{ty:TypeId}{l:String}{g:Array Edge}{j:Option (Nat×Bool)}(p:mk.contains i=false)(n:rd.contains i=false)(o:ops[i]? =some ⟨e,k,ty,l,g,j⟩)(hw:Region.wanted ⟨e,k,ty,l,g,j⟩ (yielded ops a.tmps)=false)(h:zF P ops Q mk rd b σ2 K m d (a.put e undef) w):zF P ops Q mk rd b σ2 K (.cons i m) d a w:=⟨_,o,d,rN _,by rw[p,ru bi,n,ru bi];exact jV⟩
def uC{i:Nat}{n:sk}{e:Nat}{a:Act}{w:World}{j:Option Tmp}{l:Op}{ty:TypeId}{m:String}{g:Array Edge}{k:Option (Nat×Bool)}(hm:mk.contains i=true)(hi:ops[i]? =some ⟨j,l,ty,m,g,k⟩)(d:Nat)(o:e<=d)(h:∀Q':Exit->Act->World->Prop,(∀a' w',K d w w'->zF P ops Q mk rd b σ2 K n d a' w'->Q' .normal a' w')->wpList P ops Q' [⟨j,l,ty,m,g,k⟩] a w):zF P ops Q mk rd b σ2 K (.cons i n) e a w:=⟨_,hi,d,o,gg⟩
def Be{m:Nat}{a:Act}{w:World}{i:Option Tmp}{k:Op}{ty:TypeId}{l:String}{g:Array Edge}{j:Option (Nat×Bool)}(o:ops[b]? =some ⟨i,k,ty,l,g,j⟩)(h:∀d:Exit->Act->World->Prop,(∀e w',(fun(_:Nat)(_ _:World)=>True) 0 w w'->wy P ops Q mk (fun _ _ _=>True) σ2 0 e w'->d .normal e w')->wpList P ops d [⟨i,k,ty,l,g,j⟩] a w):zF P ops Q mk rd b σ2 K .nil m a w:=yb o (fun d n=>h d (fun e w' _ p=>n e w' p))
end
section
variable{P:Program}{ops:Array Oper}{Q:Exit->Act->World->Prop}{S S' R R':World->Prop}{b:Nat}
def vN(P:Program)(ops:Array Oper)(Q:Exit->Act->World->Prop)(b:Nat)(S R:World->Prop):Nat->Array Bool->Act->World->Prop
 |0,d,a,w=>Region.ready .any ops d=[]/\Q .normal a w
 |fuel+1,d,a,w=>(Region.ready .any ops d=[]->Q .normal a w)/\∀i∈Region.ready .any ops d,wpOp P ops Q i (fun e w'=>(((d.setIfInBounds i true).getD b true=true\/S w')/\R w')/\vN P ops Q b S R fuel (d.setIfInBounds i true) e w') a w
def Fs:∀(d:Nat)(e:Array Bool)(a:Act)(w:World),vN P ops Q b S R d e a w->wpAny P .any ops Q d e a w
 |0,_,_,_,h=>h
 |d+1,_,_,_,h=>⟨h.1,fun i k=>uB (fun g w' j=>Fs d _ g w' j.2) (h.2 i k)⟩
def BE(h:∀w,S' w->S w)(g:∀w,R' w->R w):∀(d:Nat)(j:Array Bool)(a:Act)(w:World),vN P ops Q b S' R' d j a w->vN P ops Q b S R d j a w
 |0,_,_,_,hh=>hh
 |d+1,_,_,_,hh=>⟨hh.1,fun i l=>uB (fun k w' e=>⟨⟨e.1.1.imp id (h _),g _ e.1.2⟩,BE h g d _ k w' e.2⟩) (hh.2 i l)⟩
def Gy:∀(d:Nat)(e:Array Bool)(a:Act)(w:World),e.getD b true=true->wpAnyH P .any ops Q R d e a w->vN P ops Q b S R d e a w
 |0,_,_,_,_,h=>h
 |d+1,_,_,_,hb,h=>⟨h.1,fun i k=>uB (fun j w' g=>⟨⟨.inl (zd hb),g.1⟩,Gy d _ j w' (zd hb) g.2⟩) (h.2 i k)⟩
def Gx{i:Nat}{d:Oper}{v:Value}{S1:World->Prop}{Inv:Array Bool->Prop}(hi:ops[i]? =some d)(q:∀(j:Nat)(r:Oper) cs b,ops[j]? =some r->r.op≠ .select cs b)(z:∀c a w,Q (.panic c) (a.put d.dst v) w->Q (.panic c) a w)(VF:i≠b)(y:∀(listed:Array Bool) j,Inv listed->j∈Region.ready .any ops listed->j≠i->Inv (listed.setIfInBounds j true))(hS1:∀(listed:Array Bool) w,Inv listed->(listed.getD b true=true\/S w)->R w->S1 w):∀(m:Nat)(listed:Array Bool)(a:Act)(w:World),(∀j g,ops[j]? =some g->j≠i->listed.getD j true=false->(∀e∈g.after,Region.binds .any e=true->e.on≠i)->d.apart ops g=true)->i∈Region.ready .any ops listed->YieldsIf P ops S1 d v a->Inv listed->(listed.getD b true=true\/S w)->R w->vN P ops Q b S R m (listed.setIfInBounds i true) (a.put d.dst v) w->vN P ops Q b S R (m+1) listed a w:=by
 intro m;induction m with
 |zero=>
  intro listed a w _ hr hy hv hS hRw H;refine⟨fun h=>jw,fun j n=> ?_⟩;by_cases Em:j=i;·exact nU
  ·have:=Hr n Em;rw[H.1]at this;cases this
 |succ m C=>
  intro listed a w OY hr hy hv hS hRw H;refine⟨fun h=>jw,fun j n=> ?_⟩;by_cases Em:j=i;·exact nU
  ·have h1:=H.2 j (Hr n Em);obtain⟨VI,g,o,Vy⟩:=mem_ready.1 n;have B:∀e∈g.after,Region.binds .any e=true->e.on≠i:=fun e he hb heq=>dO
   have x:=wpOp_putIf o (OY j g o Em VI B) (fun cs b=>q i d cs b hi) (fun cs b=>q j g cs b o) z hy h1;have A:∀k ok,ops[k]? =some ok->k≠i->(listed.setIfInBounds j true).getD k true=false->(∀e∈ok.after,Region.binds .any e=true->e.on≠i)->d.apart ops ok=true:=fun k ok hk hki hun hno=>fo
   have p:∀w',(((listed.setIfInBounds i true).setIfInBounds j true).getD b true=true\/S w')->((listed.setIfInBounds j true).getD b true=true\/S w'):=fun w' h=>gZ
   refine uB (fun t w' l=>⟨⟨p _ l.2.1.1,l.2.1.2⟩,C (listed.setIfInBounds j true) t w' A (Hr hr (Cc Em)) l.1 (y _ _ hv n Em) (p _ l.2.1.1) l.2.1.2 ?_⟩) x;rw[Array.setIfInBounds_comm _ _ Em];exact l.2.2
def Vn{i:Nat}{g:Oper}{v:Value}{k:Nat}{d:Array Bool}{a:Act}{w:World}(m:ops[i]? =some g)(y:Region.noSelect ops=true)(x:Region.free .any ops d i=true)(hr:(Region.ready .any ops d).contains i=true)(VF:(i !=b)=true)(l:List Nat)(OU:BF ops i l=true)(z:(i::l).all (fun q=> !d.getD q true)=true)(hl:l.contains b=true)(n:∀c a w,Q (.panic c) (a.put g.dst v) w->Q (.panic c) a w)(A:YieldsIf P ops S g v a)(t:S w)(r:R w)(h:vN P ops Q b S R k (d.setIfInBounds i true) (a.put g.dst v) w):vN P ops Q b S R (k+1) d a w:=by
 refine Gx (S1:=S) (Inv:=fun YU=>∀q∈i::l,YU.getD q true=false) m (yP y) n je ?_ ?_ k d a w (BB m x) iR A ?_ (.inr t) r h;·exact cm
 ·intro YU w' hv hc _;exact fK
 ·intro q hq;have:=vY.1 z q hq;exact fg
def Jw{i:Nat}{e:Oper}{v:Value}{g:Nat}{d:Array Bool}{a:Act}{w:World}(j:ops[i]? =some e)(o:Region.noSelect ops=true)(n:Region.free .any ops d i=true)(hr:(Region.ready .any ops d).contains i=true)(VF:(i !=b)=true)(k:∀c a w,Q (.panic c) (a.put e.dst v) w->Q (.panic c) a w)(p:YieldsIf P ops (fun _=>True) e v a)(m:S w)(l:R w)(h:vN P ops Q b S R g (d.setIfInBounds i true) (a.put e.dst v) w):vN P ops Q b S R (g+1) d a w:=Gx (S1:=fun _=>True) (Inv:=fun _=>True) j (yP o) k je (fun _ _ _ _ _=>trivial) (fun _ _ _ _ _=>trivial) g d a w (BB j n) iR p trivial (.inr m) l h
def M8{i:Nat}{e:Oper}{v:Value}{g:Nat}{d:Array Bool}{a:Act}{w:World}(j:ops[i]? =some e)(o:Region.noSelect ops=true)(n:Region.free .any ops d i=true)(hr:(Region.ready .any ops d).contains i=true)(VF:(i !=b)=true)(k:∀c a w,Q (.panic c) (a.put e.dst v) w->Q (.panic c) a w)(p:YieldsIf P ops R e v a)(m:S w)(l:R w)(h:vN P ops Q b S R g (d.setIfInBounds i true) (a.put e.dst v) w):vN P ops Q b S R (g+1) d a w:=Gx (S1:=R) (Inv:=fun _=>True) j (yP o) k je (fun _ _ _ _ _=>trivial) (fun _ _ _ _ h=>h) g d a w (BB j n) iR p trivial (.inr m) l h
def M6{e:List Nat}{g:Nat}{d:Array Bool}{a:Act}{w:World}(j:Region.ready .any ops d=e)(m:e≠ [])(h:∀i∈e,wpOp P ops Q i (fun k w'=>(((d.setIfInBounds i true).getD b true=true\/S w')/\R w')/\vN P ops Q b S R g (d.setIfInBounds i true) k w') a w):vN P ops Q b S R (g+1) d a w:=⟨fun l=>absurd (j▸l) m,j▸h⟩
end
def La(ops:Array Oper)(mk rd:List Nat)(b:Nat)(σ2:sk):sk->Array Bool->Bool
 | .nil,a=>Region.ready .any ops a== [b]&&(b<a.size)&&Ak ops mk σ2 (a.setIfInBounds b true)
 | .cons i p,a=>(if mk.contains i then Region.ready .any ops a== [i]else(i !=b)&&Region.free .any ops a i&&(Region.ready .any ops a).contains i&&(!rd.contains i||match SU ops b ops.size i with|some l=>BF ops i l&&(i::l).all (fun q=> !a.getD q true)&&l.contains b|none=>false))&&La ops mk rd b σ2 p (a.setIfInBounds i true)
 | .fork i p j q,a=>Region.ready .any ops a== [i,j]&&La ops mk rd b σ2 p (a.setIfInBounds i true)&&La ops mk rd b σ2 q (a.setIfInBounds j true)
section
variable{P:Program}{ops:Array Oper}{Q:Exit->Act->World->Prop}{mk rd:List Nat}{b:Nat}{σ2:sk}{K Kp:Nat->World->World->Prop}{ra:List Nat}
def vx(P:Program)(ops:Array Oper)(Q:Exit->Act->World->Prop)(mk rd ra:List Nat)(b:Nat)(σ2:sk)(K Kp:Nat->World->World->Prop):sk->Nat->Act->World->Prop
 | .nil,_,a,w=>wpOp P ops Q b (fun e w'=>Kp 0 w w'/\wy P ops Q mk (fun _=>Kp 0) σ2 0 e w') a w
 | .cons i p,h,a,w=>∃g,ops[i]? =some g/\∃d,h<=d/\if mk.contains i then wpOp P ops Q i (fun e w'=>(K d w w'/\Kp 0 w w')/\vx P ops Q mk rd ra b σ2 K Kp p d e w') a w else if rd.contains i then∃v,YieldsIf P ops (K d w) g v a/\vx P ops Q mk rd ra b σ2 K Kp p d (a.put g.dst v) w else if ra.contains i then∃v,YieldsIf P ops (Kp 0 w) g v a/\vx P ops Q mk rd ra b σ2 K Kp p d (a.put g.dst v) w else∃v,YieldsIf P ops (fun _=>True) g v a/\vx P ops Q mk rd ra b σ2 K Kp p d (a.put g.dst v) w
 | .fork i p j q,h,a,w=>∃d,h<=d/\wpOp P ops Q i (fun e w'=>(K d w w'/\Kp 0 w w')/\vx P ops Q mk rd ra b σ2 K Kp p d e w') a w/\wpOp P ops Q j (fun e w'=>(K d w w'/\Kp 0 w w')/\vx P ops Q mk rd ra b σ2 K Kp q d e w') a w
def Ac(n:zZ K)(m:zZ Kp)(y:Region.noSelect ops=true)(r:∀c(a:Act) d v w,Q (.panic c) (a.put d v) w->Q (.panic c) a w):∀(E:sk)(e H:Nat)(D:Array Bool)(a:Act)(w:World),E.deep+1+σ2.deep<=e->La ops mk rd b σ2 E D=true->vx P ops Q mk rd ra b σ2 K Kp E H a w->vN P ops Q b (K H w) (Kp 0 w) e D a w
 | .nil,e,H,D,a,w,hf,A,h=>
 by
  obtain⟨e,rfl⟩:∃k,e=k+1:=⟨e-1,V⟩;simp only[sk.deep]at hf;simp only[La,rG,tB,rQ]at A;obtain⟨⟨I,a5⟩,B⟩:=A;have Y:(D.setIfInBounds b true).getD b true=true:=by simp[a5]
  refine M6 I bi fun j hj=> ?_
  obtain rfl:j=b:=fu;refine uB (fun F w' g=>⟨⟨.inl Y,g.1⟩,?_⟩) h;exact BE (fun _ h=>h) (fun x o=>m.trans g.1 o) _ _ _ _ (Gy (R:=Kp 0 w') _ _ _ _ Y (xT (K:=fun _=>Kp 0) ⟨fun _ w=>m.refl 0 w,fun h k=>m.trans h k,fun h _=>h⟩ y r σ2 e 0 _ F w' V B g.2))
 | .cons i E,e,H,D,a,w,hf,A,h=>
 by
  obtain⟨e,rfl⟩:∃k,e=k+1:=⟨e-1,eI⟩;simp only[sk.deep]at hf;obtain⟨a7,U,z,N,t⟩:=h;simp only[La,rG]at A;obtain⟨G,B⟩:=A;refine BE (S':=K z w) (R':=Kp 0 w) (fun w' hb=>n.mono hb N) (fun _ h=>h) _ _ _ _ ?_;by_cases Z:mk.contains i=true
  ·rw[rv Z]at G t;have I:Region.ready .any ops D=[i]:=by simpa using G
   refine M6 I bi fun j hj=> ?_
   obtain rfl:j=i:=fu;refine uB (fun F w' g=>⟨⟨.inr g.1.1,g.1.2⟩,?_⟩) t;exact BE (fun x o=>n.trans g.1.1 o) (fun x o=>m.trans g.1.2 o) _ _ _ _ (Ac n m y r E e z _ F w' V B g.2)
  ·rw[ru Z]at G t;simp only[rG]at G;obtain⟨⟨⟨W,T⟩,X⟩,C⟩:=G;by_cases O:rd.contains i=true
   ·rw[rv O]at t;obtain⟨v,M,L⟩:=t;rw[O]at C;simp only[tl,tU]at C;split at C;·rename_i l a6;simp only[rG]at C;exact Vn U y T X W l C.1.1 C.1.2 C.2 (fun c a w=>r c a _ v w) M (n.refl _ _) (m.refl _ _) (Ac n m y r E e z _ _ w V B L)
    ·cases C
   ·rw[ru O]at t;by_cases a0:ra.contains i=true;·rw[rv a0]at t;obtain⟨v,M,L⟩:=t;exact M8 U y T X W (fun c a w=>r c a _ v w) M (n.refl _ _) (m.refl _ _) (Ac n m y r E e z _ _ w V B L)
    rw[ru a0]at t;obtain⟨v,M,L⟩:=t;exact Jw U y T X W (fun c a w=>r c a _ v w) M (n.refl _ _) (m.refl _ _) (Ac n m y r E e z _ _ w V B L)
 | .fork i p j q,e,H,D,a,w,hf,A,h=>
 by
  obtain⟨e,rfl⟩:∃k,e=k+1:=⟨e-1,eI⟩;simp only[sk.deep]at hf;obtain⟨z,N,a1,a2⟩:=h;simp only[La,rG]at A;obtain⟨⟨a3,G⟩,B⟩:=A;refine BE (S':=K z w) (R':=Kp 0 w) (fun w' hb=>n.mono hb N) (fun _ h=>h) _ _ _ _ ?_;have I:Region.ready .any ops D=[i,j]:=by simpa using a3
  refine M6 I bi fun k hk=> ?_
  have a4:k=i\/k=j:=jx;rcases a4 with rfl|rfl;·refine uB (fun F w' g=>⟨⟨.inr g.1.1,g.1.2⟩,?_⟩) a1;exact BE (fun x o=>n.trans g.1.1 o) (fun x o=>m.trans g.1.2 o) _ _ _ _ (Ac n m y r p e z _ F w' V G g.2)
  ·refine uB (fun F w' g=>⟨⟨.inr g.1.1,g.1.2⟩,?_⟩) a2;exact BE (fun x o=>n.trans g.1.1 o) (fun x o=>m.trans g.1.2 o) _ _ _ _ (Ac n m y r q e z _ F w' V B g.2)
def C7(g:zZ K)(i:zZ Kp){o:Nat}{a:Act}{w:World}(e:sk)(b:Nat)(σ2:sk)(mk rd ra:List Nat)(m:P.follows .mixedOrders=true)(n:Region.noSelect ops=true)(l:e.deep+1+σ2.deep<=ops.size)(k:La ops mk rd b σ2 e (Array.replicate ops.size false)=true)(j:∀c(a:Act) d v w,Q (.panic c) (a.put d v) w->Q (.panic c) a w)(h:∀wd:World,acP w wd->wd.heap.size=w.heap.size->vx P ops Q mk rd ra b σ2 K Kp e 0 a wd):(Code.region o ops true).wp P Q a w:=wp_region_any m (Fs (b:=b) (S:=K 0 w.drew) (R:=Kp 0 w.drew) _ _ _ _ (Ac g i n j e _ 0 _ a _ l k (h w.drew vK.drew rfl)))
def FN{i:Nat}{m:sk}{e:Nat}{a:Act}{w:World}{d:Option Tmp}{k:Op}{ty:TypeId}{l:String}{g:Array Edge}{j:Option (Nat×Bool)}(p:mk.contains i=false)(n:rd.contains i=false)(q:ra.contains i=false)(o:ops[i]? =some ⟨d,k,ty,l,g,j⟩)(hw:Region.wanted ⟨d,k,ty,l,g,j⟩ (yielded ops a.tmps)=true){v:Value}(hy:∀w',(execOp a.eval ⟨d,k,ty,l,g,j⟩).run P w'=.ok (.value v) w')(h:vx P ops Q mk rd ra b σ2 K Kp m e (a.put d v) w):vx P ops Q mk rd ra b σ2 K Kp (.cons i m) e a w:=⟨_,o,e,rN _,by rw[p,ru bi,n,ru bi,q,ru bi];exact iI⟩
def FO{i:Nat}{n:sk}{m:Nat}{a:Act}{w:World}{e:Option Tmp}{k:Op}{ty:TypeId}{l:String}{g:Array Edge}{j:Option (Nat×Bool)}(hm:mk.contains i=false)(hd:rd.contains i=true)(p:ops[i]? =some ⟨e,k,ty,l,g,j⟩)(hw:Region.wanted ⟨e,k,ty,l,g,j⟩ (yielded ops a.tmps)=true)(d:Nat)(o:m<=d)(v:Value)(hy:∀w',K d w w'->(execOp a.eval ⟨e,k,ty,l,g,j⟩).run P w'=.ok (.value v) w')(h:vx P ops Q mk rd ra b σ2 K Kp n d (a.put e v) w):vx P ops Q mk rd ra b σ2 K Kp (.cons i n) m a w:=⟨_,p,d,o,oq⟩
def FP{i:Nat}{m:sk}{d:Nat}{a:Act}{w:World}{e:Option Tmp}{k:Op}{ty:TypeId}{l:String}{g:Array Edge}{j:Option (Nat×Bool)}(p:mk.contains i=false)(n:rd.contains i=false)(q:ra.contains i=false)(o:ops[i]? =some ⟨e,k,ty,l,g,j⟩)(hw:Region.wanted ⟨e,k,ty,l,g,j⟩ (yielded ops a.tmps)=false)(h:vx P ops Q mk rd ra b σ2 K Kp m d (a.put e undef) w):vx P ops Q mk rd ra b σ2 K Kp (.cons i m) d a w:=⟨_,o,d,rN _,by rw[p,ru bi,n,ru bi,q,ru bi];exact jV⟩
def zc{i:Nat}{q:sk}{j:Nat}{a:Act}{w:World}{l:Option Tmp}{o:Op}{ty:TypeId}{p:String}{k:Array Edge}{m:Option (Nat×Bool)}(x:mk.contains i=true)(n:ops[i]? =some ⟨l,o,ty,p,k,m⟩)(e:Nat)(t:j<=e)(h:∀d:Exit->Act->World->Prop,(∀g w',K e w w'->Kp 0 w w'->vx P ops Q mk rd ra b σ2 K Kp q e g w'->d .normal g w')->wpList P ops d [⟨l,o,ty,p,k,m⟩] a w):vx P ops Q mk rd ra b σ2 K Kp (.cons i q) j a w:=⟨_,n,e,t,by rw[x,rv rfl];exact yb n (fun d r=>h d (fun g w' hb v y=>r g w' ⟨⟨hb,v⟩,y⟩))⟩
def M7{m:Nat}{a:Act}{w:World}{i:Option Tmp}{k:Op}{ty:TypeId}{l:String}{g:Array Edge}{j:Option (Nat×Bool)}(o:ops[b]? =some ⟨i,k,ty,l,g,j⟩)(h:∀d:Exit->Act->World->Prop,(∀e w',Kp 0 w w'->wy P ops Q mk (fun _=>Kp 0) σ2 0 e w'->d .normal e w')->wpList P ops d [⟨i,k,ty,l,g,j⟩] a w):vx P ops Q mk rd ra b σ2 K Kp .nil m a w:=yb o (fun d n=>h d (fun e w' hb p=>n e w' ⟨hb,p⟩))
def BD{i:Nat}{m:sk}{e:Nat}{a:Act}{w:World}{d:Option Tmp}{k:Op}{ty:TypeId}{l:String}{g:Array Edge}{j:Option (Nat×Bool)}(p:mk.contains i=false)(n:rd.contains i=false)(q:ra.contains i=true)(o:ops[i]? =some ⟨d,k,ty,l,g,j⟩)(hw:Region.wanted ⟨d,k,ty,l,g,j⟩ (yielded ops a.tmps)=true)(v:Value)(hy:∀w',Kp 0 w w'->(execOp a.eval ⟨d,k,ty,l,g,j⟩).run P w'=.ok (.value v) w')(h:vx P ops Q mk rd ra b σ2 K Kp m e (a.put d v) w):vx P ops Q mk rd ra b σ2 K Kp (.cons i m) e a w:=⟨_,o,e,rN _,by rw[p,ru bi,n,ru bi,q,rv rfl];exact iJ⟩
def Jv{i j:Nat}{p q:sk}{g:Nat}{a:Act}{w:World}{o r:Option Tmp}{x y:Op}{ty B:TypeId}{z A:String}{m n:Array Edge}{t v:Option (Nat×Bool)}(E:ops[i]? =some ⟨o,x,ty,z,m,t⟩)(F:ops[j]? =some ⟨r,y,B,A,n,v⟩)(C:∀d:Exit->Act->World->Prop,(∀e w',K g w w'->Kp 0 w w'->vx P ops Q mk rd ra b σ2 K Kp p g e w'->d .normal e w')->wpList P ops d [⟨o,x,ty,z,m,t⟩] a w)(D:∀d:Exit->Act->World->Prop,(∀e w',K g w w'->Kp 0 w w'->vx P ops Q mk rd ra b σ2 K Kp q g e w'->d .normal e w')->wpList P ops d [⟨r,y,B,A,n,v⟩] a w):vx P ops Q mk rd ra b σ2 K Kp (.fork i p j q) g a w:=⟨g,rN _,yb E (fun d h=>C d (fun e w' hb k l=>h e w' ⟨⟨hb,k⟩,l⟩)),yb F (fun d h=>D d (fun e w' hb k l=>h e w' ⟨⟨hb,k⟩,l⟩))⟩
end
