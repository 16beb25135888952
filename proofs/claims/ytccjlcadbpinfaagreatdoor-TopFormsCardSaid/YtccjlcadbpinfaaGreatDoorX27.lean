import Derived.Test.YtccjlcadbpinfaaGreatDoorX23
import Derived.Test.YtccjlcadbpinfaaGreatDoorX24
set_option linter.all false
set_option maxRecDepth 100000
set_option maxHeartbeats 16000000
namespace Go.Proofs.YtccjlcadbpinfaaGreatDoor.Tp
open ChangeShapes WideShapes ChangeAt RowKit
open Num Mem Can
def Ls:∀f u,(uU f u).length<=f+1
 |0,u=>by simp[uU]
 |f+1,u=>
 by
  unfold uU;split;·have:=Ls f (u/10);simp;omega
  ·simp
def L2(n:Int):(zO n).length<=22:=by unfold zO;have:=Ls 20 n.natAbs;split<;>simp<;>omega
def Hq(s:acM):(sU s).length<=6*s.length+2:=by unfold sU;have:=GR s;exact j5
def Yr(N:Nat)(W:Jr N)(k i:Int)(text:acM)(items:List J)(keys:List acM)(b3:SizeOf.sizeOf (J.mk k i text items keys)<=N+1)(b6:xC (.mk k i text items keys))(w:World)(b l:Nat)(st:St)(X:acO)(A:acN)(n c:Nat)(A':acN)(n' c':Nat){css:List (List Value)}(a8:Row w X 5 A n css)(a6:css.length=items.length)(a2:∀(i:Nat)(h:i<css.length)(U:i<items.length),uf w X css[i] items[i])(a5:Row w X 1 A' n' (uF keys))(a1:n<=100000000)(aU:n'<=100000000)(hX:∀x,X x->x<b)(hp:KE w b l st):Calls Tryz.prog 60 #[.pointer (some ⟨b,0,none⟩),jA k i ⟨text.toArray⟩ A n c A' n' c'] w fun e w'=>e=.returned (.tuple #[])/\KE w' b l (ya (.mk k i text items keys) st)/\rS b l w w'/\zG b w w':=by
 obtain⟨b9,b5,b0,b1,an,b2⟩:text.length<=1000000/\(∀x∈keys,x.length<=1000000)/\ -9223372036854775808<=i/\i<=9223372036854775807/\(¬(k=1\/k=2\/k=3\/k=4\/k=5)->keys.length=items.length)/\∀x∈items,xC x:=by
  cases b6 with
  |mk a b c d e f=>exact⟨a,b,c,d,e,f⟩
 simp only[J.mk.sizeOf_spec]at b3;have a4:∀x∈items,SizeOf.sizeOf x<=N/\xC x:=fun x hx=>⟨fv,b2 x hx⟩
 have b7:b<l:=eT;have L:l<=w.heap.size:=by obtain⟨_,_,_,_,_,_,_,_,h,_⟩:=hp;exact h
 obtain⟨R,G⟩:∃R,R=ya (.mk k i text items keys) st:=⟨_,rfl⟩;rw[<-G];unfold ya at G;have p:=rq G;clear G;have z:=((acQ w).al rT (.cells #[.pointer (some ⟨b,0,none⟩)] 135)).alloc bi (jC k i ⟨text.toArray⟩ A n c A' n' c');have v:Cs ((w.alloc (.cells #[.pointer (some ⟨b,0,none⟩)] 135)).alloc (jC k i ⟨text.toArray⟩ A n c A' n' c')) w.heap.size b:=(Below.heap_alloc _ _ _ bi).trans (World.alloc_heap_new w _);have y:Bz ((w.alloc (.cells #[.pointer (some ⟨b,0,none⟩)] 135)).alloc (jC k i ⟨text.toArray⟩ A n c A' n' c')) (w.heap.size+1) k i ⟨text.toArray⟩ A n c A' n' c':=by have h:=World.alloc_heap_new (w.alloc (.cells #[.pointer (some ⟨b,0,none⟩)] 135)) (jC k i ⟨text.toArray⟩ A n c A' n' c');rw[World.size_alloc]at h;exact h
 have b8:((w.alloc (.cells #[.pointer (some ⟨b,0,none⟩)] 135)).alloc (jC k i ⟨text.toArray⟩ A n c A' n' c')).heap.size=w.heap.size+2:=bi;have r:=hp.below z;have Qx:rS b l w ((w.alloc (.cells #[.pointer (some ⟨b,0,none⟩)] 135)).alloc (jC k i ⟨text.toArray⟩ A n c A' n' c')):=rS.of (z.mono L);have Zt:zG b w ((w.alloc (.cells #[.pointer (some ⟨b,0,none⟩)] 135)).alloc (jC k i ⟨text.toArray⟩ A n c A' n' c')):=zG.below z;have a9:=a8.keep (Y:=X) (fun q hq=>z.cell bG) (fun _ h=>h);have a3:=fun j h U=>(a2 j h U).keep (Y:=X) (fun q hq=>z.cell bG) (fun _ h=>h)
 have b4:=a5.keep (Y:=X) (fun q hq=>z.cell bG) (fun _ h=>h);have a0:l<=((w.alloc (.cells #[.pointer (some ⟨b,0,none⟩)] 135)).alloc (jC k i ⟨text.toArray⟩ A n c A' n' c')).heap.size:=V;clear a8 a2 a5 hp z;go_enter Tryz.func60,Tryz.ntmps60;go_upto_region 1 with fail;generalize(w.alloc (.cells #[.pointer (some ⟨b,0,none⟩)] 135)).alloc (jC k i ⟨text.toArray⟩ A n c A' n' c')=w1 at*;obtain⟨j0,aa,ab,ac,ad⟩:=y.at_;have Z:=v.c0;by_cases t:k=1;·have h:=p.out;rw[rv t]at h;have HH:=rq h;subst t;clear h p;go_wp2_with fail;refine(wj b l st [110,117,108,108] w1 r bi).mono ?_;exact bF
 have be:(k==1)=false:=rr.2 t;by_cases B:k=2
 ·have h:=p.out;rw[ru t,rv B]at h;have HH:=rq h;subst B;clear h p;by_cases H:i=1;·have h:=HH.out;rw[rv H]at h;clear HH;have HH:=rq h;subst H;clear h;go_wp2_with fail;refine(wj b l st [116,114,117,101] w1 r bi).mono ?_;exact bF
  ·have h:=HH.out;rw[ru H]at h;clear HH;have HH:=rq h;have br:(i==1)=false:=rr.2 H;clear h;go_wp2_with fail;refine(wj b l st [102,97,108,115,101] w1 r bi).mono ?_;exact bF
 have bj:(k==2)=false:=rr.2 B;by_cases C:k=3;·have h:=p.out;rw[ru t,ru B,rv C]at h;have HH:=rq h;subst C;clear h p;go_upto_region 11 with fail;clear j0 aa ab ac ad Z;refine td (K:=Gh b l) (NL b l) (sk.of [0,1,2,3,4,5] .nil) [3,4,5] bg bg bC bg (fun _ _ d _ _ h=>bw) (fun we o S=> ?_);have YN:=v.D9 (zG.below o) V;have YO:=y.D9 (zG.below (b:=b) o) V;have O:=r.below o;have hoe:=Qx.trans (rS.of (g:=b) (o.mono a0));have hfe:=Zt.trans (zG.below o);have ar:l<=we.heap.size:=V;clear v y r Qx Zt o S;refine aJ ?_;refine rZ rfl rfl we.heap.size V (fun D sP=> ?_);go_wp2_with fail;refine(MX none 0 0 we.heap.size [] i b0 b1 we (Mem.Own.nil _ _) V rT).mono ?_;rintro e' T ⟨af,m,c2,rfl,E,DV⟩;rw[sd]at E;go_wp2_with fail;refine sP _ _ (Gh.below DV V) ?_;clear sP;refine aJ ?_;refine rZ rfl rfl we.heap.size V (fun D sP=> ?_);go_wp2_with(with_reducible refine Dd rfl rfl E.rd ?_);refine sP _ _ (Gh.below vK V) ?_;clear sP;refine rZ rfl rfl we.heap.size V (fun D sP=> ?_);have M:=O.below DV;go_wp2_with fail;refine(wj b l st _ T M (by have:=L2 i;omega)).mono ?_;exact l8
 have bk:(k==3)=false:=rr.2 C;by_cases F:k=4;·have h:=p.out;rw[ru t,ru B,ru C,rv F]at h;have HH:=rq h;subst F;clear h p;go_upto_region 13 with fail;clear j0 aa ab ac ad Z;refine td (K:=Gh b l) (NL b l) (sk.of [0,1,2,3,4,5] .nil) [3,4,5] bg bg bC bg (fun _ _ d _ _ h=>bw) (fun we o S=> ?_);have YN:=v.D9 (zG.below o) V;have YO:=y.D9 (zG.below (b:=b) o) V;have O:=r.below o;have hoe:=Qx.trans (rS.of (g:=b) (o.mono a0));have hfe:=Zt.trans (zG.below o);have ar:l<=we.heap.size:=V;clear v y r Qx Zt o S;refine aJ ?_;refine rZ rfl rfl we.heap.size V (fun D sP=> ?_);go_wp2_with fail;refine(Ew none 0 0 we.heap.size [] text we (Mem.Own.nil _ _) V V rT).mono ?_;rintro e' T ⟨af,m,c2,rfl,E,DV⟩;rw[sd]at E;go_wp2_with fail;refine sP _ _ (Gh.below DV V) ?_;clear sP;refine aJ ?_;refine rZ rfl rfl we.heap.size V (fun D sP=> ?_);go_wp2_with(with_reducible refine Dd rfl rfl E.rd ?_);refine sP _ _ (Gh.below vK V) ?_;clear sP;refine rZ rfl rfl we.heap.size V (fun D sP=> ?_);have M:=O.below DV;go_wp2_with fail;refine(wj b l st _ T M (by have:=Hq text;omega)).mono ?_;exact l8
 have bn:(k==4)=false:=rr.2 F;by_cases I:k=5;·have h:=p.out;rw[ru t,ru B,ru C,ru F,rv I]at h;have HH:=rq h;subst I;clear h p;go_wp2_with fail;refine(Qj N W w.heap.size (w.heap.size+1) b l st items a4 w1 X 5 i ⟨text.toArray⟩ A n c A' n' c' a9 a6 a3 hX a1 v y L V r).mono ?_;exact bF
 have bp:(k==5)=false:=rr.2 I;have h:=p.out;rw[ru t,ru B,ru C,ru F,ru I]at h;have HH:=rq h;have a7:=an V;have ak:=rq a7;clear h p a7;go_wp2_with fail;refine(SO N W w.heap.size (w.heap.size+1) b l st items keys ak.out b5 a4 w1 X k i ⟨text.toArray⟩ A n c A' n' c' a9 a6 a3 b4 hX a1 aU v y L V r).mono ?_;exact bF
def Ul:∀N,Jr N:=by
 intro N;induction N with
 |zero=>exact eX
 |succ N v=>
  intro j hj r w b a st X k i t A n c A' n' c' h d p;cases h with
  |mk q o l m x y e g=>exact Yr N v k i _ _ _ hj r w b a st X A n c A' n' c' q o l m e g d p
inductive uX(P:Int->Nat->Nat->Prop):List Int->Nat->Nat->Prop
 |nil (nx:Nat):uX P [] nx nx
 |cons {k:Int} {ks:List Int} {nx RJ R:Nat} (h:P k nx RJ) (hr:uX P ks RJ R):uX P (k::ks) nx R
def Lp{S:List Nd}{P:Int->Nat->Nat->Prop}(d:∀(k:Int)(nx:Nat),0<=k->k<(nx:Int)->(match S[k.toNat]? with|some y=>sf y.kind|none=>false)=true->P k nx nx)(wk:Nat->Option Nat)(hwk:∀a b,wk a=some b->P (a:Int) a b):∀(ks:List Int)(nx R:Nat),zm S wk ks nx=some R->uX P ks nx R:=by
 intro ks;induction ks with
 |nil=>exact jD
 |cons k ks ih=>
  intro nx R h;simp only[zm]at h;split at h;·exact fw
  ·rename_i hk;split at h;·cases h
   ·rename_i i;split at h
    ·rename_i y g;split at h;·rename_i e;exact .cons (d k nx V V (by rw[g];exact e)) (ih _ _ h)
     ·cases h
    ·simp at h
def uX.imp{P d:Int->Nat->Nat->Prop}(g:∀k a b,P k a b->d k a b){ks:List Int}{e R:Nat}(h:uX P ks e R):uX d ks e R:=by
 induction h with
 |nil=>exact .nil _
 |cons h _ ih=>exact .cons (g _ _ _ h) ih
abbrev CS:=acM×List Bool
def xv:acM:=[123,34,110,97,109,101,34,58]
def yK:acM:=[44,34,116,121,112,101,34,58]
def AF:acM:=[44,34,102,105,101,108,100,115,34,58,91]
def Ai:acM:=[44,34,115,121,109,98,111,108,115,34,58,91]
def G7:acM:=[44,34,115,105,122,101,34,58]
def Ah:acM:=[123,34,116,121,112,101,34,58,34,97,114,114,97,121,34,44,34,105,116,101,109,115,34,58]
def G6:acM:=[123,34,116,121,112,101,34,58,34,109,97,112,34,44,34,118,97,108,117,101,115,34,58]
def Zi(nd:Nat->CS->CS)(i:Nat)(f:Fd)(st:CS):CS:=((nd f.type.toNat (st.1++uv i++xv++sU f.name++yK,st.2)).1++[125],(nd f.type.toNat (st.1++uv i++xv++sU f.name++yK,st.2)).2)
def GI(nd:Nat->CS->CS):Nat->List Fd->CS->CS
 |_,[],st=>st
 |i,f::r,st=>GI nd (i+1) r (Zi nd i f st)
def JA:Nat->List acM->acM->acM
 |_,[],b=>b
 |i,s::r,b=>JA (i+1) r (b++uv i++sU s)
def GJ(nd:Nat->CS->CS):Nat->List Int->CS->CS
 |_,[],st=>st
 |i,k::r,st=>GJ nd (i+1) r (nd k.toNat (st.1++uv i,st.2))
def ID(x:Nd)(b:acM):acM:=b++xv++sU x.name++yK++sU (tu x.kind)
def YM(nd:Nat->CS->CS)(x:Nd)(st:CS):CS:=if x.kind=9 then((GI nd 0 x.fields (ID x st.1++AF,st.2)).1++[93]++[125],(GI nd 0 x.fields (ID x st.1++AF,st.2)).2)else if x.kind=10 then(JA 0 x.symbols (ID x st.1++Ai)++[93]++[125],st.2)else(ID x st.1++G7++zO x.size++[125],st.2)
def CX(S:List Nd):Nat->Nat->CS->CS
 |0,_,st=>st
 |f+1,a,st=>
 match S[a]? with
 |none=>st
 |some x=>if x.kind<=8 then(st.1++sU (tu x.kind),st.2)else if sf x.kind=true then(if st.2[a]? =some true then(st.1++sU x.name,st.2)else YM (CX S f) x (st.1,st.2.set a true))else if x.kind=13 then((GJ (CX S f) 0 x.rR (st.1++[91],st.2)).1++[93],(GJ (CX S f) 0 x.rR (st.1++[91],st.2)).2)else if x.kind=11 then((CX S f x.items.toNat (st.1++Ah,st.2)).1++[125],(CX S f x.items.toNat (st.1++Ah,st.2)).2)else((CX S f x.items.toNat (st.1++G6,st.2)).1++[125],(CX S f x.items.toNat (st.1++G6,st.2)).2)
def vh(s:acM):(sU s).length<=2+6*s.length:=by have:=Hq s;omega
def zS(i:Nat):(uv i).length<=1:=by unfold uv;split<;>simp
def L1(m:Int):(zO m).length<=22:=L2 m
def Ej(k:Int):(tu k).length<=8:=by
 unfold tu;split;·simp
 ·have:∀i,(ue.getD i []).length<=8:=by
   intro i;rcases sX i 15 with h|h
   ·match i,h with
    |0,_|1,_|2,_|3,_|4,_|5,_|6,_|7,_|8,_|9,_|10,_|11,_|12,_|13,_|14,_=>decide
   ·simp[List.getD,ta (show ue.length<=i by simpa[ue]using h)]
  exact this _
def yV{l:acM}(h:vQ l=true):l.length<=100:=by unfold vQ at h;simp at h;exact h.1
def Mi{l:acM}(h:wa l=true):l.length<=100:=by unfold wa at h;simp at h;exact h.1
def IG{p:acM->Bool}{l:List acM}(h:Cg p l=true):∀s∈l,p s=true:=by intro s b;obtain⟨i,a⟩:=yO b;exact(CY (p:=p) (all:=l) l 0 rfl h i s a).1
def BT{S:List Nd}{x:Nd}(h:uZ S x=true)(d:x.kind=9):x.fields.length<=40/\∀f∈x.fields,f.name.length<=100:=by have a:=(Cx h d).1;unfold yo at a;simp only[rG,rQ]at a;exact⟨a.2.1,fun f b=>Mi (IG a.2.2 f.name (sR.2 ⟨f,b,rfl⟩))⟩
def Du{S:List Nd}{x:Nd}(h:uZ S x=true)(b:x.kind=10):x.symbols.length<=40/\∀s∈x.symbols,s.length<=100:=by have a:=(Iz h b).1;unfold II at a;simp only[rG,rQ]at a;exact⟨a.2.2.1,fun s d=>Mi (IG a.2.2.2 s d)⟩
def CP{S:List Nd}{x:Nd}(h:uZ S x=true)(b:x.kind=13):x.rR.length<=10:=by have a:=(GB h b).1;unfold B9 at a;simp only[rG,rQ]at a;exact a.1.2
def Z6(S:List Nd)(nd:Nat->CS->CS)(k:Int)(b a:Nat):Prop:=b<=a/\(0<=k/\k<(a:Int))/\∀st:CS,Met S b st.2->Met S a (nd k.toNat st).2/\(nd k.toNat st).1.length+60000*b<=st.1.length+700+60000*a
def SD{S:List Nd}{nd:Nat->CS->CS}{ks:List Int}{a R:Nat}(h:uX (Z6 S nd) ks a R):a<=R/\∀(i:Nat)(st:CS),Met S a st.2->Met S R (GJ nd i ks st).2/\(GJ nd i ks st).1.length+60000*a<=st.1.length+701*ks.length+60000*R:=by
 induction h with
 |nil a=>exact⟨rN _,fun i st b=>⟨b,by simp[GJ]⟩⟩
 |cons h q k=>obtain⟨n,o,g⟩:=h;obtain⟨r,j⟩:=k;refine⟨V,fun i st b=> ?_⟩;obtain⟨e,m⟩:=g (st.1++uv i,st.2) b;obtain⟨d,l⟩:=j (i+1) _ e;refine⟨d,?_⟩;have p:=zS i;simp only[GJ,rM,rC]at*;omega
def Lj{S:List Nd}{nd:Nat->CS->CS}:∀(a:List Fd)(b R:Nat),uX (Z6 S nd) (a.map (·.type)) b R->(∀f∈a,f.name.length<=100)->b<=R/\∀(i:Nat)(st:CS),Met S b st.2->Met S R (GI nd i a st).2/\(GI nd i a st).1.length+60000*b<=st.1.length+1320*a.length+60000*R
 | [],b,R,h,d=>by cases h;exact⟨rN _,fun i st e=>⟨e,by simp[GI]⟩⟩
 |f::a,b,R,h,d=>
 by
  cases h with
  |cons h n=>
   obtain⟨t,v,l⟩:=h;obtain⟨A,o⟩:=Lj a _ R n (fun g m=>d g (by simp[m]));refine⟨V,fun i st e=> ?_⟩;obtain⟨k,r⟩:=l (st.1++uv i++xv++sU f.name++yK,st.2) e;obtain⟨j,p⟩:=o (i+1) (Zi nd i f st) k;refine⟨j,?_⟩;have x:=zS i;have z:=vh f.name;have y:=d f bi;have B:xv.length=8:=rfl;have C:yK.length=8:=rfl;have q:(Zi nd i f st).1.length=(nd f.type.toNat (st.1++uv i++xv++sU f.name++yK,st.2)).1.length+1:=by simp[Zi]
   simp only[GI,rM,rC]at*;omega
def Lk:∀(l:List acM)(i:Nat)(b:acM),(∀s∈l,s.length<=100)->(JA i l b).length<=b.length+603*l.length
 | [],i,b,_=>by simp[JA]
 |s::r,i,b,h=>by have j:=Lk r (i+1) (b++uv i++sU s) (fun t a=>h t (by simp[a]));have d:=zS i;have g:=vh s;have e:=h s bi;simp only[JA,rM,rC]at*;omega
def OJ(x:Nd)(b:acM)(h:x.name.length<=100):(ID x b).length<=b.length+670:=by have a:=vh x.name;have d:=vh (tu x.kind);have e:=Ej x.kind;have g:xv.length=8:=rfl;have i:yK.length=8:=rfl;unfold ID;exact dF
structure PF(w:World)(g h base:Nat)(A:acN)(n:Nat)(S:List Nd)(X:acO):Prop where
 row:tV w X A n S
 CZ:∀b,X b->b<base/\b≠g/\b≠h
 zk:vE w
 two:2<=g/\2<=h/\2<=base
 le:n<=100000000
section
variable(S:List Nd)(F a R:Nat){w w':World}{g h d k B r:Nat}{f:Fd}{x:Nd}{P:Int->Nat->Nat->Prop}
def vE.AW(a:vE w)(b:sr g h d w w')(n:2<=g/\2<=h/\2<=d):vE w':=by obtain⟨⟨m,j⟩,k⟩:=a;exact⟨⟨m,(b.cell (p:=⟨1,0,none⟩) bd bd bd).trans j⟩,fun i l e=>(b.cell (p:=⟨0,i,none⟩) bd bd bd).trans (k i l e)⟩
def PF.AW{A:acN}{n:Nat}{S:List Nd}{X:acO}(a:PF w g h d A n S X)(b:sr g h d w w'):PF w' g h d A n S X:=⟨a.row.keep (fun q e=>b.cell (a.CZ _ e).1 (a.CZ _ e).2.1 (a.CZ _ e).2.2) (fun _ h=>h),a.CZ,a.zk.AW b a.two,a.two,a.le⟩
def Ox(w:World)(k:Nat):Prop:=k<w.heap.size/\∀a fz,w.heap[k]?≠some (.cells a 5 fz)
def Ox.tf(a:Ox w k)(b:TF g h w w')(d:k≠g)(i:k≠h):Ox w' k/\w'.heap[k]? =w.heap[k]?:=by have e:=b.block k a.1 d i a.2;exact j7
def Ox.below(a:Ox w k)(b:Below B w w')(d:k<B):Ox w' k/\w'.heap[k]? =w.heap[k]?:=by have e:=b.block k d;exact j7
def Ox.new(w:World)(cs:Array Value)(t:TypeId)(a:t≠5):Ox (w.alloc (.cells cs t)) w.heap.size:=by refine⟨bi,fun b fz e=> ?_⟩;rw[JJ]at e;injection e with e;injection e with _ e _;exact a e
def Vh(w:World)(r:Nat)(x:Nd)(a:acN)(i c1:Nat)(b:acN)(j c2:Nat)(d:acN)(k g:Nat)(e:acN)(l h:Nat):Prop:=wY w r x a i c1 b j c2 d k g e l h/\Ox w r
def Vh.tf{d:acN}{o c1:Nat}{e:acN}{p c2:Nat}{i:acN}{q l:Nat}{k:acN}{t m:Nat}(a:Vh w r x d o c1 e p c2 i q l k t m)(b:TF g h w w')(y:r≠g)(z:r≠h):Vh w' r x d o c1 e p c2 i q l k t m:=by obtain⟨v,n⟩:=a.2.tf b y z;exact⟨a.1.keep (fun j=>rD (w:=w) (a:=⟨r,j,none⟩) n) (fun j=>sA (w:=w) (a:=⟨r,j,none⟩) n),v⟩
def Z9(w:World)(r:Nat)(f:Fd)(a:acN)(h e:Nat)(k i:Int)(t:ByteArray)(B:acN)(m d:Nat)(B':acN)(g b:Nat):Prop:=A8 w r f a h e k i t B m d B' g b/\Ox w r
def Z9.tf{e:acN}{p n:Nat}{k i:Int}{t:ByteArray}{B:acN}{m d:Nat}{B':acN}{o l:Nat}(a:Z9 w r f e p n k i t B m d B' o l)(b:TF g h w w')(x:r≠g)(y:r≠h):Z9 w' r f e p n k i t B m d B' o l:=by obtain⟨q,v⟩:=a.2.tf b x y;exact⟨a.1.keep (fun j=>rD (w:=w) (a:=⟨r,j,none⟩) v),q⟩
def uX.le(e:∀k a b,P k a b->a<=b){ks:List Int}{d R:Nat}(h:uX P ks d R):d<=R:=by
 induction h with
 |nil=>exact iW
 |cons h _ ih=>exact sG (e _ _ _ h) ih
def Vc(S:List Nd)(F:Nat)(k:Int)(b d:Nat):Prop:=Z6 S (CX S F) k b d/\∀st:CS,Met S b st.2->st.1.length+60000*d<=580000000+60000*b->∀(w:World)(g h a:Nat)(A:acN)(n c:Nat)(root:Int)(X:acO),PF w g h a A n S X->KR w g h a A n c root st.2 st.1->Calls Tryz.prog 32 #[.pointer (some ⟨g,0,none⟩),.int .i64 k] w (KP w g h a A n c root (CX S F k.toNat st).2 (CX S F k.toNat st).1)
def Nv(x:Nd)(hD:S[a]? =some x)(d2:uZ S x=true)(dB:sf x.kind=true)(eg:x.kind=9->uX (Vc S F) (x.fields.map (·.type)) (a+1) R)(ho:a+1<=R)(st:CS)(go:Met S (a+1) st.2)(hu:st.1.length+55000+60000*R<=580000000+60000*(a+1))(a6:acN)(ab c1:Nat)(a0:acN)(v c2:Nat)(a1:acN)(r a9:Nat)(a7:acN)(ac aa:Nat)(w:World)(g h e:Nat)(A:acN)(n c:Nat)(root:Int)(X:acO)(bp:PF w g h e A n S X)(hF:KR w g h e A n c root st.2 st.1)(dM:yJ w X a0 v x.fields)(dN:Row w X 1 a1 r (uF x.symbols))(hw:v<=100000000)(hx:r<=100000000):Calls Tryz.prog 69 #[.pointer (some ⟨g,0,none⟩),nA x a6 ab c1 a0 v c2 a1 r a9 a7 ac aa] w (KP w g h e A n c root (YM (CX S F) x st).2 (YM (CX S F) x st).1):=by
 have en:=zN d2 dB;have gr:=yV en.name;have h6:=Ej x.kind;have gx:=vh x.name;have gz:=vh (tu x.kind);have l1:xv.length=8:=rfl;have l2:yK.length=8:=rfl;have l3:AF.length=11:=rfl;have l4:Ai.length=12:=rfl;have l5:G7.length=8:=rfl;have f0:g<e/\h<e/\g≠h/\e<=w.heap.size:=eK;have CD:w.heap.size≠g:=V;have CE:w.heap.size≠h:=V;have dk:=(acQ w).al rT (nC x a6 ab c1 a0 v c2 a1 r a9 a7 ac aa);have C:Vh (w.alloc (nC x a6 ab c1 a0 v c2 a1 r a9 a7 ac aa)) w.heap.size x a6 ab c1 a0 v c2 a1 r a9 a7 ac aa:=⟨wY.new w x a6 ab c1 a0 v c2 a1 r a9 a7 ac aa w.heap.size rfl,Ox.new _ _ _ bD⟩;have G:=hF.below dk;have H:TF g h w (w.alloc (nC x a6 ab c1 a0 v c2 a1 r a9 a7 ac aa)):=TF.below dk;have y:sr g h e w (w.alloc (nC x a6 ab c1 a0 v c2 a1 r a9 a7 ac aa)):=sr.below (dk.mono f0.2.2.2);obtain⟨e7,cS⟩:∃e7,e7=YM (CX S F) x st:=⟨_,rfl⟩;rw[<-cS];unfold YM at cS;have cy:=rq cS;have d6:=rq eg;have hp:2<=g:=bp.two.1;clear cS hF en eg;go_enter Tryz.func69,Tryz.ntmps69;go_upto_region 2 with fail;generalize w.alloc (nC x a6 ab c1 a0 v c2 a1 r a9 a7 ac aa)=w1 at*;obtain⟨⟨b0,b1,b2,b3,b4,b5,b6,b7,b8,b9⟩,bz⟩:=C.1;have hc:=uo g h e A n c root st.2 (st.1) xv w1 G bA;go_wp2_with fail;refine hc.mono ?_;rintro e' ar ⟨rfl,F2,hT,hO⟩;clear hc b0 b1 b2 b3 b4 b5 b6 b7 b8 b9 bz;have T2:=H.trans hT;have O2:=y.trans hO;have N2:=C.tf hT CD CE;obtain⟨⟨b0,b1,b2,b3,b4,b5,b6,b7,b8,b9⟩,bz⟩:=N2.1;clear hT hO G H y C;have hc:=yT g h e A n c root st.2 (st.1++xv) x.name ar F2 bA V;go_wp2_with fail;refine hc.mono ?_;rintro e' w3 ⟨rfl,F3,hT,hO⟩;clear hc b0 b1 b2 b3 b4 b5 b6 b7 b8 b9 bz;have T3:=T2.trans hT;have O3:=O2.trans hO;have N3:=N2.tf hT CD CE;obtain⟨⟨b0,b1,b2,b3,b4,b5,b6,b7,b8,b9⟩,bz⟩:=N3.1;clear hT hO F2 T2 O2 N2;have hc:=uo g h e A n c root st.2 (st.1++xv++sU x.name) yK w3 F3 bA;go_wp2_with fail;refine hc.mono ?_;rintro e' d5 ⟨rfl,bO,hT,hO⟩;clear hc b0 b1 b2 b3 b4 b5 b6 b7 b8 b9 bz;have c5:=T3.trans hT;have bn:=O3.trans hO;have aU:=N3.tf hT CD CE;obtain⟨⟨b0,b1,b2,b3,b4,b5,b6,b7,b8,b9⟩,bz⟩:=aU.1;clear hT hO F3 T3 O3 N3;have f3:=Bd x.kind d5 (bp.zk.AW bn bp.two);go_wp2_with fail;refine f3.mono ?_;rintro e' hE ⟨rfl,rfl⟩;clear f3;have hc:=yT g h e A n c root st.2 (st.1++xv++sU x.name++yK) (tu x.kind) d5 bO bA V;go_wp2_with fail;refine hc.mono ?_;rintro e' cs ⟨rfl,a8,hT,hO⟩;clear hc b0 b1 b2 b3 b4 b5 b6 b7 b8 b9 bz;have af:=c5.trans hT;have ad:=bn.trans hO;have a3:=aU.tf hT CD CE;obtain⟨⟨b0,b1,b2,b3,b4,b5,b6,b7,b8,b9⟩,bz⟩:=a3.1;clear hT hO bO c5 bn aU;have ea:ID x st.1=st.1++xv++sU x.name++yK++sU (tu x.kind):=rfl;rw[<-ea]at a8;have hn:(ID x st.1).length<=st.1.length+670:=OJ x st.1 gr;clear ea gx gz h6;by_cases an:x.kind=9
 ·have h9:(x.kind==9)=true:=tB.2 an;have ef:=d6.out an;have Bj:=BT d2 an;have a5:=cy.out;rw[rv an]at a5;have Ca:=rq a5;have PJ:=rq dM.len;have gc:v<=40:=gQ;clear a5 cy an d6;have hc:=uo g h e A n c root st.2 (ID x st.1) AF cs a8 bA;go_wp2_with fail;refine hc.mono ?_;rintro e' ct ⟨rfl,a2,hT,hO⟩;clear hc b0 b1 b2 b3 b4 b5 b6 b7 b8 b9 bz;have a4:=af.trans hT;have E:=ad.trans hO;have D:=a3.tf hT CD CE;obtain⟨⟨b0,b1,b2,b3,b4,b5,b6,b7,b8,b9⟩,bz⟩:=D.1;clear hT hO a8 af ad a3;have YH:=rq ef;clear ef;have bj:∀b,X b->b<e/\b≠g/\b≠h:=bp.CZ;go_wp2_with fail;go_loopw [48] (fun e0 wr=>∃(j:Nat)(l:CS)(cr:Nat),e0=.int .i64 j/\j<=v/\RowKit.Hid (GI (CX S F) j (x.fields.drop j) l=GI (CX S F) 0 x.fields (ID x st.1++AF,st.2))/\Met S cr l.2/\RowKit.Hid (uX (Vc S F) ((x.fields.drop j).map (·.type)) cr R)/\l.1.length+1320*(v-j)+60000*R<=580000000+60000*cr/\KR wr g h e A n c root l.2 l.1/\TF g h w wr/\sr g h e w wr/\Vh wr w.heap.size x a6 ab c1 a0 v c2 a1 r a9 a7 ac aa) (fun e0 _=>v-(intOf e0).toNat);case atStart=>exact⟨0,(ID x st.1++AF,st.2),a+1,rfl,rO _,fk,go,ga,(by simp only[rC,l3,Nat.sub_zero];omega),a2,a4,E,D⟩
  case
   round=>
    obtain⟨j,l,cr,rfl,gb,o,es,d0,gi,G,H,y,C⟩:=hrel;have hz:cr<=R:=uX.le (fun k a b h=>h.1.1) d0.out;obtain⟨w1,dK⟩:∃w1,w1=wr:=⟨_,rfl⟩;subst dK;clear b0 b1 b2 b3 b4 b5 b6 b7 b8 b9 bz;obtain⟨⟨b0,b1,b2,b3,b4,b5,b6,b7,b8,b9⟩,bz⟩:=C.1;have f1:=dM.keep (w':=w1) (Y:=X) (fun q o=>y.cell (bj _ o).1 (bj _ o).2.1 (bj _ o).2.2) (fun _ h=>h);by_cases Ar:j<v
    ·have ds:(j:Int)<(v:Int):=V;have Qu:j<x.fields.length:=gI;obtain⟨gf,ha,f,bx,cl,c9,k,i,t,B,m,d,B',cj,c8,rfl,g9,Zv,⟨f8,f9,hd,he,hf,hg,hh,hi,hj⟩,_,_,_,_⟩:=yY f1 Ar;have dr:x.fields[j]=f:=jY;have g8:=Bj.2 f (dr▸rY Qu);have gA:=vh f.name;have g7:=zS j;have ci:x.fields.drop j=f::x.fields.drop (j+1):=by rw[rH Qu,dr]
     have dp:=d0.out;have z:=o.out;rw[ci]at dp z;simp only[uH]at dp;have HQ:=rq z;have h5:0<w1.heap.size/\e<=w1.heap.size:=⟨by have:=y.size;omega,by have:=y.size;omega⟩;have cc:=(acQ w1).al rT (fC f bx cl c9 k i t B m d B' cj c8);have d7:Z9 (w1.alloc (fC f bx cl c9 k i t B m d B' cj c8)) w1.heap.size f bx cl c9 k i t B m d B' cj c8:=⟨A8.new w1 f bx cl c9 k i t B m d B' cj c8 w1.heap.size rfl,Ox.new _ _ _ bD⟩;have F2:=G.below cc;have T2:=H.trans (TF.below cc);have O2:=y.trans (sr.below (cc.mono h5.2));have N2:=C.tf (TF.below (g:=g) (h:=h) cc) CD CE;have br:w1.heap.size≠g:=V;have bs:w1.heap.size≠h:=V;clear ci Zv dr z o d0 Qu f1 G H y C cc;cases dp with
     |cons d1 dz=>rename_i f6;go_upto_region 14 with fail;generalize w1.alloc (fC f bx cl c9 k i t B m d B' cj c8)=ar at*;clear b0 b1 b2 b3 b4 b5 b6 b7 b8 b9 bz f8 f9 hd he hf hg hh hi hj;obtain⟨⟨b0,b1,b2,b3,b4,b5,b6,b7,b8,b9⟩,bz⟩:=N2.1;obtain⟨I,L,M,N,O,T,U,W,Z⟩:=d7.1;have hs:=d1.1.1;have ht:f6<=R:=uX.le (fun k a b h=>h.1.1) dz;have hc:=Dv j g h e A n c root l.2 l.1 ar F2 V;go_wp2_with fail;refine hc.mono ?_;rintro e' w3 ⟨rfl,F3,hT,hO⟩;clear hc b0 b1 b2 b3 b4 b5 b6 b7 b8 b9 bz I L M N O T U W Z;have T3:=T2.trans hT;have O3:=O2.trans hO;have N3:=N2.tf hT CD CE;obtain⟨⟨b0,b1,b2,b3,b4,b5,b6,b7,b8,b9⟩,bz⟩:=N3.1;have d8:=d7.tf hT br bs;obtain⟨I,L,M,N,O,T,U,W,Z⟩:=d8.1;clear hT hO F2 T2 O2 N2 d7;have hc:=uo g h e A n c root l.2 (l.1++uv j) xv w3 F3 bA;go_wp2_with fail;refine hc.mono ?_;rintro e' d5 ⟨rfl,bO,hT,hO⟩;clear hc b0 b1 b2 b3 b4 b5 b6 b7 b8 b9 bz I L M N O T U W Z;have c5:=T3.trans hT;have bn:=O3.trans hO;have aU:=N3.tf hT CD CE;obtain⟨⟨b0,b1,b2,b3,b4,b5,b6,b7,b8,b9⟩,bz⟩:=aU.1;have d9:=d8.tf hT br bs;obtain⟨I,L,M,N,O,T,U,W,Z⟩:=d9.1;clear hT hO F3 T3 O3 N3 d8;have hc:=yT g h e A n c root l.2 (l.1++uv j++xv) f.name d5 bO bA V;go_wp2_with fail;refine hc.mono ?_;rintro e' cs ⟨rfl,a8,hT,hO⟩;clear hc b0 b1 b2 b3 b4 b5 b6 b7 b8 b9 bz I L M N O T U W Z;have af:=c5.trans hT;have ad:=bn.trans hO;have a3:=aU.tf hT CD CE;obtain⟨⟨b0,b1,b2,b3,b4,b5,b6,b7,b8,b9⟩,bz⟩:=a3.1;have dd:=d9.tf hT br bs;obtain⟨I,L,M,N,O,T,U,W,Z⟩:=dd.1;clear hT hO bO c5 bn aU d9;have hc:=uo g h e A n c root l.2 (l.1++uv j++xv++sU f.name) yK cs a8 bA;go_wp2_with fail;refine hc.mono ?_;rintro e' ct ⟨rfl,a2,hT,hO⟩;clear hc b0 b1 b2 b3 b4 b5 b6 b7 b8 b9 bz I L M N O T U W Z;have a4:=af.trans hT;have E:=ad.trans hO;have D:=a3.tf hT CD CE;obtain⟨⟨b0,b1,b2,b3,b4,b5,b6,b7,b8,b9⟩,bz⟩:=D.1;have df:=dd.tf hT br bs;obtain⟨I,L,M,N,O,T,U,W,Z⟩:=df.1;clear hT hO a8 af ad a3 dd;have hc:=d1.2 (l.1++uv j++xv++sU f.name++yK,l.2) es eV ct g h e A n c root X (bp.AW E) a2;go_wp2_with fail;refine hc.mono ?_;rintro e' cx ⟨rfl,c3,hT,hO⟩;clear hc b0 b1 b2 b3 b4 b5 b6 b7 b8 b9 bz I L M N O T U W Z;have c6:=a4.trans hT;have c4:=E.trans hO;have be:=D.tf hT CD CE;obtain⟨⟨b0,b1,b2,b3,b4,b5,b6,b7,b8,b9⟩,bz⟩:=be.1;have di:=df.tf hT br bs;obtain⟨I,L,M,N,O,T,U,W,Z⟩:=di.1;clear hT hO a2 a4 E D df;obtain⟨gl,gd⟩:=d1.1.2.2 (l.1++uv j++xv++sU f.name++yK,l.2) es;have eb:Zi (CX S F) j f l=((CX S F f.type.toNat (l.1++uv j++xv++sU f.name++yK,l.2)).1++[125],(CX S F f.type.toNat (l.1++uv j++xv++sU f.name++yK,l.2)).2):=rfl;have dI:=HQ.out;rw[GI,eb]at dI;have hv:(l.1++uv j++xv++sU f.name++yK).length<=l.1.length+619:=eV;simp only at gd;generalize CX S F f.type.toNat (l.1++uv j++xv++sU f.name++yK,l.2)=d4 at*;have fl:=rq dI;clear dI HQ eb d1;have hc:=uo g h e A n c root d4.2 d4.1 [125] cx c3 ns;go_wp2_with fail;refine hc.mono ?_;rintro e' f7 ⟨rfl,ff,hT,hO⟩;clear hc b0 b1 b2 b3 b4 b5 b6 b7 b8 b9 bz I L M N O T U W Z;have g2:=c6.trans hT;have fs:=c4.trans hO;have e4:=be.tf hT CD CE;obtain⟨⟨b0,b1,b2,b3,b4,b5,b6,b7,b8,b9⟩,bz⟩:=e4.1;have fm:=di.tf hT br bs;obtain⟨I,L,M,N,O,T,U,W,Z⟩:=fm.1;clear hT hO c3 c6 c4 be di;have fj:=rq dz;clear dz;go_wp2_with fail;refine⟨⟨j+1,(d4.1++[125],d4.2),f6,bi,V,fl.out,gl,fj.out,fa,ff,g2,fs,e4⟩,?_⟩;exact bK
    ·obtain rfl:j=v:=V;have ds:¬(j:Int)<(j:Int):=V;have z:=o.out;rw[th (by rw[PJ.out];omega),GI]at z;have HQ:=rq z;clear o z d0 YH a2 a4 E D;have hc:=uo g h e A n c root l.2 (l.1) [93] w1 G bA;go_wp2_with fail;refine hc.mono ?_;rintro e' ar ⟨rfl,F2,hT,hO⟩;clear hc b0 b1 b2 b3 b4 b5 b6 b7 b8 b9 bz;have T2:=H.trans hT;have O2:=y.trans hO;have N2:=C.tf hT CD CE;obtain⟨⟨b0,b1,b2,b3,b4,b5,b6,b7,b8,b9⟩,bz⟩:=N2.1;clear hT hO G H y C;have hc:=uo g h e A n c root l.2 (l.1++[93]) [125] ar F2 bA;exact cq
 ·have h9:(x.kind==9)=false:=rr.2 an;have a5:=cy.out;rw[ru an]at a5;clear cy d6 dM;by_cases bk:x.kind=10
  ·have h8:(x.kind==10)=true:=tB.2 bk;have Bj:=Du d2 bk;rw[rv bk]at a5;have Ca:=rq a5;have PJ:=rq (show x.symbols.length=r by have:=dN.len;exact cN);have gc:r<=40:=gQ;clear a5 bk an;have hc:=uo g h e A n c root st.2 (ID x st.1) Ai cs a8 bA;go_wp2_with fail;refine hc.mono ?_;rintro e' ct ⟨rfl,a2,hT,hO⟩;clear hc b0 b1 b2 b3 b4 b5 b6 b7 b8 b9 bz;have a4:=af.trans hT;have E:=ad.trans hO;have D:=a3.tf hT CD CE;obtain⟨⟨b0,b1,b2,b3,b4,b5,b6,b7,b8,b9⟩,bz⟩:=D.1;clear hT hO a8 af ad a3;have bj:∀b,X b->b<e/\b≠g/\b≠h:=bp.CZ;go_wp2_with fail;go_loopw [80] (fun e1 wr=>∃(j:Nat)(ak:acM),e1=.int .i64 j/\j<=r/\RowKit.Hid (JA j (x.symbols.drop j) ak=JA 0 x.symbols (ID x st.1++Ai))/\ak.length+610*(r-j)<=890000000/\KR wr g h e A n c root st.2 ak/\TF g h w wr/\sr g h e w wr/\Vh wr w.heap.size x a6 ab c1 a0 v c2 a1 r a9 a7 ac aa) (fun e1 _=>r-(intOf e1).toNat);case atStart=>exact⟨0,ID x st.1++Ai,rfl,rO _,fk,(by simp only[rC,l4,Nat.sub_zero];omega),a2,a4,E,D⟩
   case
    round=>
     obtain⟨j,ak,rfl,gb,o,gi,G,H,y,C⟩:=hrel;obtain⟨w1,dK⟩:∃w1,w1=wr:=⟨_,rfl⟩;subst dK;clear b0 b1 b2 b3 b4 b5 b6 b7 b8 b9 bz;obtain⟨⟨b0,b1,b2,b3,b4,b5,b6,b7,b8,b9⟩,bz⟩:=C.1;have f2:=dN.keep (w':=w1) (Y:=X) (fun q o=>y.cell (bj _ o).1 (bj _ o).2.1 (bj _ o).2.2) (fun _ h=>h);by_cases Ar:j<r;·have ds:(j:Int)<(r:Int):=V;have Qu:j<x.symbols.length:=gI;obtain⟨gf,ha,rfl,g9,ek⟩:=f2.pos V;have er:=(ek j [sv x.symbols[j]] (by simp[uF,Qu])).2 0 _ rfl;rw[tv,si]at er;unfold sv at er;have g8:=Bj.2 x.symbols[j] (rY Qu);have gA:=vh x.symbols[j];have g7:=zS j;have ci:x.symbols.drop j=x.symbols[j]::x.symbols.drop (j+1):=rH Qu;have z:=o.out;rw[ci]at z;rw[JA]at z;generalize x.symbols[j]=s at*;have HQ:=rq z;clear ci z o Qu f2 ek;have hc:=Dv j g h e A n c root st.2 ak w1 G V;go_wp2_with fail;refine hc.mono ?_;rintro e' ar ⟨rfl,F2,hT,hO⟩;clear hc b0 b1 b2 b3 b4 b5 b6 b7 b8 b9 bz;have T2:=H.trans hT;have O2:=y.trans hO;have N2:=C.tf hT CD CE;obtain⟨⟨b0,b1,b2,b3,b4,b5,b6,b7,b8,b9⟩,bz⟩:=N2.1;clear hT hO G H y C;have hc:=yT g h e A n c root st.2 (ak++uv j) s ar F2 bA V;go_wp2_with fail;refine hc.mono ?_;rintro e' w3 ⟨rfl,F3,hT,hO⟩;clear hc b0 b1 b2 b3 b4 b5 b6 b7 b8 b9 bz;have T3:=T2.trans hT;have O3:=O2.trans hO;have N3:=N2.tf hT CD CE;obtain⟨⟨b0,b1,b2,b3,b4,b5,b6,b7,b8,b9⟩,bz⟩:=N3.1;clear hT hO F2 T2 O2 N2;go_wp2_with fail;refine⟨⟨j+1,ak++uv j++sU s,bi,V,HQ.out,dF,F3,T3,O3,N3⟩,?_⟩;exact bK
     ·obtain rfl:j=r:=V;have ds:¬(j:Int)<(j:Int):=V;have z:=o.out;rw[th (by rw[PJ.out];omega),JA]at z;have HQ:=rq z;clear o z a2 a4 E D;have hc:=uo g h e A n c root st.2 (ak) [93] w1 G bA;go_wp2_with fail;refine hc.mono ?_;rintro e' ar ⟨rfl,F2,hT,hO⟩;clear hc b0 b1 b2 b3 b4 b5 b6 b7 b8 b9 bz;have T2:=H.trans hT;have O2:=y.trans hO;have N2:=C.tf hT CD CE;obtain⟨⟨b0,b1,b2,b3,b4,b5,b6,b7,b8,b9⟩,bz⟩:=N2.1;clear hT hO G H y C;have hc:=uo g h e A n c root st.2 (ak++[93]) [125] ar F2 bA;exact cq
  ·have h8:(x.kind==10)=false:=rr.2 bk;rw[ru bk]at a5;have Ca:=rq a5;have f5:x.kind=14:=by unfold sf at dB;simp at dB;omega
   have hC:=(GA d2 f5).1;have hy:=L1 x.size;clear a5 bk an f5 dN;have hc:=uo g h e A n c root st.2 (ID x st.1) G7 cs a8 bA;go_wp2_with fail;refine hc.mono ?_;rintro e' ct ⟨rfl,a2,hT,hO⟩;clear hc b0 b1 b2 b3 b4 b5 b6 b7 b8 b9 bz;have a4:=af.trans hT;have E:=ad.trans hO;have D:=a3.tf hT CD CE;obtain⟨⟨b0,b1,b2,b3,b4,b5,b6,b7,b8,b9⟩,bz⟩:=D.1;clear hT hO a8 af ad a3;have gs:g<e/\e<=ct.heap.size:=⟨f0.1,by have:=E.size;omega⟩;go_upto_region 8 with fail;refine vS (K:=Below) Below.keeps (sk.of [0,1,2,3,4,5,6] .nil) 7 (sk.of [8,9,10] .nil) [10] [4,6] bg bg bC bg (fun _ _ d _ _ h=>bw) (fun wd ch sW=> ?_);have Fd:=a2.below (ch.mono rT);have cz:=D.tf (TF.below (g:=g) (h:=h) ch) CD CE;have e8:=a4.trans (TF.below (g:=g) (h:=h) ch);have e5:=E.trans (sr.below (ch.mono gs.2));have hB:e<=wd.heap.size:=V;clear b0 b1 b2 b3 b4 b5 b6 b7 b8 b9 bz a2 D a4 E ch sW;obtain⟨⟨b0,b1,b2,b3,b4,b5,b6,b7,b8,b9⟩,bz⟩:=cz.1;have hA:=cz.2.1;obtain⟨fb,h7,g4,a⟩:=Fd;have e9:=a;obtain⟨⟨hk,hl,hm,e2⟩,zz,gk,gn,d3,el,hr,hq,h0⟩:=a;have ei:=d3.len;simp only[rC,l5]at ei;have f4:=zz 3;have o:=KY fb h7 g4 e (ID x st.1++G7) x.size V V wd d3 V h0;clear ei hk hl hm gk gn zz;repeat((first|(refine wG rfl rfl rfl rfl bh ?_)|(refine wI rfl rfl rfl rfl ?_)|(refine wH rfl rfl rfl rfl (wd.heap.size) V _ (by intro w' hb;have f8:=(hb.cell (p:=⟨g,3,none⟩) bd).trans e2;have f9:=(hb.cell (p:=⟨w.heap.size,7,none⟩) bd).trans b7;clear hb;go_simp;first|done|with_reducible rfl) ?_));simp only[Act.put,rB,rz,rA])
   refine Be rfl (fun g1 cb=> ?_);go_wp2_with fail;refine o.mono ?_;rintro e' cx ⟨bv,cp,c7,rfl,et,cf,em⟩;clear o;go_wp2_with fail;refine cb _ _ trivial ?_;clear cb;refine ai ?_;have g5:=(cf.cell (p:=⟨g,3,none⟩) el).trans e2;have g6:=(cf.frozen (p:=⟨g,3,none⟩) el).trans f4;refine rZ rfl rfl 0 rT (fun g1 cb=> ?_);go_wp2_with fail;refine cb _ _ trivial ?_;clear cb;refine sI ?_;have dj:=(TF.gro (g:=g) (h:=h) d3 em).trans (TF.ES (g:=g) (h:=h) 3 (.slice bv cp c7));have e3:KR (cx.setCell ⟨g,3,none⟩ (.slice bv cp c7)) g h e A n c root st.2 (ID x st.1++G7++zO x.size):=⟨bv,cp,c7,e9.store cf et⟩;have e6:sr g h e wd (cx.setCell ⟨g,3,none⟩ (.slice bv cp c7)):=(sr.below cf).trans (sr.ES 3 _);have be:=cz.tf dj CD CE;have c6:=e8.trans dj;have c4:=e5.trans e6;clear b0 b1 b2 b3 b4 b5 b6 b7 b8 b9 bz cz e8 e5 e9 d3 e2 f4 g5 g6 et cf em dj e6;have c3:=e3;clear e3;generalize cx.setCell ⟨g,3,none⟩ (.slice bv cp c7)=f7 at*;obtain⟨⟨b0,b1,b2,b3,b4,b5,b6,b7,b8,b9⟩,bz⟩:=be.1;have hc:=uo g h e A n c root st.2 (ID x st.1++G7++zO x.size) [125] f7 c3 bA;go_wp2_with fail;refine hc.mono ?_;rintro e' hG ⟨rfl,fi,hT,hO⟩;clear hc b0 b1 b2 b3 b4 b5 b6 b7 b8 b9 bz;have g3:=c6.trans hT;have g0:=c4.trans hO;have fn:=be.tf hT CD CE;obtain⟨⟨b0,b1,b2,b3,b4,b5,b6,b7,b8,b9⟩,bz⟩:=fn.1;clear hT hO c3 c6 c4 be;go_wp2_with fail;refine tY (tA rfl _ _ _) rfl ?_;rw[Ca.out];exact⟨rfl,fi,g3,g0⟩
end
