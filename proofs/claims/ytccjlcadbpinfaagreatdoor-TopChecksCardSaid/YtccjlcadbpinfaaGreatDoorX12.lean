import Derived.Test.YtccjlcadbpinfaaGreatDoorX11
import Derived.Test.YtccjlcadbpinfaaGreatDoorX10
set_option linter.all false
set_option maxRecDepth 100000
set_option maxHeartbeats 16000000
namespace Go.Proofs.YtccjlcadbpinfaaGreatDoor.Tp
open ChangeShapes WideShapes ChangeAt RowKit
open Num Mem Can
section
variable(N F:Nat){g B:Nat}(n:Nd){f:Fd}{l:List Fd}{j:J}{S:List Nd}{a R:Nat}{x:Nd}{m:List Bool}{b:Bool}{c e:Int}
def U9{b:Nat}{w w':World}(h:sa g B w w')(e:b<=B):vp (fun p=>p.block=g) b w w':=⟨h.size,fun p d a=>h.cell V a,fun p d a=>h.frozen V a⟩
def xH(S:List Nd)(root:Int):Bool:=decide (0<S.length)&&(decide (S.length<=200)&&(decide (root=0)&&decide (ye S 33 0=some S.length)))
def FV(S:List Nd)(root:Int)(w:World)(X:afu)(A:aft)(n c:Nat)(B:tJ w X A n S)(y:∀b,X b->b<w.heap.size)(M:n<=100000000):Calls Tryz.prog 62 #[.agg #[.slice A n c,.int .i64 root]] w (vh w (.bool (xH S root))):=by
 have L:=B.len;obtain⟨R,a⟩:=sW (xH S root);rw[<-a];unfold xH at a;rw[L]at a;have g:=rz a;clear a;have z:=((afw w).al rV (sC A n c root)).al bA (.cells #[.slice A n c,.int .i64 root,.int .i64 0] 201);have T:((w.alloc (sC A n c root)).alloc (.cells #[.slice A n c,.int .i64 root,.int .i64 0] 201)).cell? (rN w.heap.size 0)=some (.slice A n c):=bi;have U:((w.alloc (sC A n c root)).alloc (.cells #[.slice A n c,.int .i64 root,.int .i64 0] 201)).cell? (rN w.heap.size 1)=some (.int .i64 root):=bi;have F:WY ((w.alloc (sC A n c root)).alloc (.cells #[.slice A n c,.int .i64 root,.int .i64 0] 201)) (w.heap.size+1) A n c root 0:=⟨⟨bi,bi,bi⟩,fun j=>bi⟩;have Y:=z.s2;go_enter Tryz.func62,Tryz.ntmps62;go_upto_region 2 with fail;generalize(w.alloc _).alloc _=w1 at*;refine sR (K:=vp (fun p=>p.block=w.heap.size+1)) (vp.keeps _) (sA.of [0,1,2,3,4,5,6,7,8,9,10,11,12,13,14,15,16,17,18,19,20,21,22,24,25,26,23,27,28,29] .nil) [17,23] bm bm bF bm bt (fun wd i tj=> ?_);have d0:=i.cl T V;have d1:=i.cl U V;have E:=F.below i V;have Bv:=z.sY V i;have N:w.heap.size+1<wd.heap.size:=V;by_cases m:0<n
 ·have v:decide (0<n)=true:=rY m;by_cases o:n<=200
  ·have x:decide (n<=200)=true:=rY o;have G:decide ((n:Int)<=200)=true:=rY V;by_cases l:root=0
   ·have H:(root==0)=true:=tl.2 l;have a:=g.out;rw[v,x,rY l,sk,sk,sk]at a;have t:=rz a;have O:=Wm S (w.heap.size+1) A n c root X M 33 0 0 wd V V E (sb _) (B.below Bv y) N (fun b hb=>by have:=y b hb;have:=Bv.size;omega);clear a;refine aB ?_;refine se rfl rfl (w.heap.size+1) V (fun Q1 tv=> ?_);go_wp2_with fail;refine sG O fun a5 ⟨⟨a4,D,W,I⟩,e⟩=> ?_
    have e0:=(e.cell (p:=rN w.heap.size 0) bl bA).trans d0;have e1:=(e.cell (p:=rN w.heap.size 1) bl bA).trans d1;have vb:=Bv.trans (e.below (B':=w.heap.size) V V);have Z:=e.size;go_wp2_with fail;refine tv _ _ (U9 e V) ?_;cases q:ye S 33 0 with
    |none=>
     obtain rfl:R=false:=by rw[t.out,q];simp
     rw[DG];refine aC ?_;refine se rfl rfl (w.heap.size+1) V (fun Q1 tv=> ?_);go_wp2_with fail;refine tv _ _ (vp.refl _ _ _) ?_;refine aC ?_;refine sF ?_;exact jV
    |some r=>
     obtain rfl:=I r q;have a:=t.out;rw[q]at a;have C:=rz a;clear a;rw[DH];obtain⟨⟨a0,a1,a2⟩,a3⟩:=D;refine aC ?_;refine se rfl rfl (w.heap.size+1) V (fun Q1 tv=> ?_);go_wp2_with fail;refine tv _ _ (vp.refl _ _ _) ?_;refine aC ?_;refine sF ?_;go_wp2_with fail;go_ret;refine⟨?_,vb⟩;rw[C.out];by_cases h:r=n;·simp[h]
     ·simp[h];omega
   ·have H:(root==0)=false:=rA.2 l;obtain rfl:R=false:=by rw[g.out,rI l];simp
    exact mu
  ·have x:decide (n<=200)=false:=rI o;have G:decide ((n:Int)<=200)=false:=rI V;obtain rfl:R=false:=by rw[g.out,rI o];simp
   exact mu
 ·have v:decide (0<n)=false:=rI m;obtain rfl:R=false:=by rw[g.out,rI m];simp
  exact mu
def take_split(hx:S[a]? =some x)(h:a+1<=R):(S.take R).drop a=x::(S.take R).drop (a+1):=by have b:a<S.length:=(rQ.1 hx).1;exact fp
def Mm(hx:S[a]? =some x):tj S (a+1)=tj S a++[td x]:=by unfold tj;exact kV
def Ek(ok:LP S){a:Nat}(d:a<S.length)(n:Nd):wi n (tj S a) 0=((a:Int),[n],0):=by have b:=Eo S (zE d);have g:=ok.le;have e:decide (200<=(tj S a).length)=false:=rI (by rw[b];omega);unfold wi;rw[e,tX,rG rfl,b]
def take_one(b:S[a]? =some x):(S.take (a+1)).drop a=[x]:=by rw[take_split b rV,JV.2 (by simp;omega)]
def getD_some{x:J}{k:afs}(h:uw j k=some x):getD j k=x/\has j k=true:=by unfold getD has;rw[h];exact bK
def getD_none{k:afs}(h:uw j k=none):getD j k=J.zero/\has j k=false:=by unfold getD has;rw[h];exact bK
def Ba{k t:afs}(h:uw j k=some (jT t)):xE j k 0=(t,0):=by obtain⟨a,b⟩:=getD_some h;unfold xE;rw[a,b];rfl
def Dg(ks:List afs)(l:List J)(ar:afs)(a:List Hd):uf (F+1) (jO ks l) ar a 0=yi (uf F) (jO ks l) ar a 0:=rfl
def Jt(ok:LP S){d:Nat->Sh->J×Sh}{ar:afs}{a R F:Nat}{x:Nd}{m:List Bool}(g:S[a]? =some x)(b:x.kind=11\/x.kind=12)(l:I2 S d ar x.items (a+1) R)(G:Met S (a+1) m)(K:(d x.items.toNat (m,false)).2.2=false)(o:SizeOf.sizeOf (jO [tC,if x.kind=12 then wP else uW] [jT (tI x.kind),(d x.items.toNat (m,false)).1])<F):Met S R (d x.items.toNat (m,false)).2.1/\uf F (jO [tC,if x.kind=12 then wP else uW] [jT (tI x.kind),(d x.items.toNat (m,false)).1]) ar (tj S a) 0=((a:Int),(S.take R).drop a,0):=by
 have z:a<S.length:=(rQ.1 g).1;have q:=Q5 (ok.node x (rU g)) b;obtain⟨F,rfl⟩:∃r,F=r+1:=⟨F-1,V⟩;obtain⟨E,L,l⟩:=l;obtain⟨y,k⟩:=l m G K;have k:=k F (by unfold jO at o;simp only[J.mk.sizeOf_spec,List.cons.sizeOf_spec]at o;omega);refine⟨y,?_⟩;have n:=Eo S (zE z);have E:=ok.le;have A:decide (200<=(tj S a).length)=false:=rI (by rw[n];omega);generalize(d x.items.toNat (m,false)).1=i at*;have H:=take_split g (by omega:a+1<=R);have C:td x=(x.kind,[]):=by rw[q];rfl
 have p:=Mm g;rw[C]at p;have I:xE (jO [tC,if x.kind=12 then wP else uW] [jT (tI x.kind),i]) tC 0=(tI x.kind,0):=Ba kB;have D:(wJ (tI x.kind):Int)=x.kind:=BM x.kind V V V;rw[Dg];unfold yi;simp only[I,uy,D];have e:∀key,uw (jO [tC,if x.kind=12 then wP else uW] [jT (tI x.kind),i]) key=some i->Cu (fun j=>uf F j ar) (jO [tC,if x.kind=12 then wP else uW] [jT (tI x.kind),i]) x.kind key (tj S a) 0=((a:Int),(S.take R).drop a,0):=by intro key B;obtain⟨t,v⟩:=getD_some B;unfold Cu;rw[v,tM,tX,A,tX,rG rfl,t,<-p];simp only[k,n,H];rw[<-q]
 rcases b with b|b;·rw[rG b];rw[b]at e|-;exact e uW kB
 ·rw[rB V,rG b];rw[b]at e|-;exact e wP kB
def Kt{a:Type}(p:a->Bool)(c:Int):∀(l:List a)(e:Int),(∀x∈l,p x=false)->l.foldl (fun e i=>sM (p i) c e) e=e
 | [],_,_=>rfl
 |x::r,e,h=>by rw[List.foldl_cons,h x bA,tX];exact Kt p c r e (fun y b=>h y (by simp[b]))
def Na(l:List afs)(h:l.length<=40):yq (BY l) 0=(l,0):=by
 unfold yq BY jL;show(((l.map jT).map J.text,sM (decide (40<(l.map jT).length)) 3 ((l.map jT).foldl (fun e i=>sM (!decide (i.kind=4)) 30 e) (sM (!decide ((5:Int)=5)) 30 0))):List afs×Int)=_;have a:(l.map jT).map J.text=l:=by rw[List.map_map];exact(LL (fun x _=>rfl)).trans (WB l)
 rw[a,Kt (fun i=> !decide (i.kind=4)) 30 (l.map jT) _ (by intro x b;obtain⟨t,_,rfl⟩:=ti.1 b;rfl),tN,rI (show¬40<l.length from V),tX];rfl
def G1(full:afs->afs×Bool)(j:J)(l:List afs)(i:l.length<=40)(g:∀a∈l,full a=(a,true))(h:uw j tz=if tK l=true then some (BY l)else none):xC full j 0=(l,0):=by
 unfold xC;cases l with
 |nil=>obtain⟨e,b⟩:=getD_none (j:=j) (k:=tz) (by rw[h];rfl);rw[b];rfl
 |cons a r=>obtain⟨e,b⟩:=getD_some (j:=j) (k:=tz) (by rw[h];rfl);rw[b,rG rfl,e,Na _ i];simp only;rw[Kt (fun s=> !(full s).2) 31 (a::r) 0 (fun x d=>by rw[g x d];rfl)];congr 1;exact(LL (fun x d=>by rw[g x d];rfl)).trans (WB _)
def Ff(ok:LP S){a:Nat}{x:Nd}(j:S[a]? =some x)(i:sr x.kind=true)(e:x7 x=false)(ar:afs)(ks:List afs)(l:List J)(o:uw (jO ks l) vi=some (jT (vU x.name)))(g:uw (jO ks l) uM=some (jT (sO x.name)))(p:uw (jO ks l) tz=if tK x.aliases=true then some (BY x.aliases)else none):zJ (jO ks l) x.kind ar (tj S a) 0=({CH with kind:=x.kind,name:=x.name,aliases:=x.aliases},0):=by
 have d:=Af (ok.node x (rU j)) i;have n:=Rn ok j i (a:=a) rV;obtain⟨_,k⟩:=getD_some g;have q:yW (vU x.name) (sO x.name) true ar=some x.name:=by show(if true=true then vT (sO x.name) (vU x.name)else _)=_;rw[rG rfl,RJ d.name]
 have m:=G1 (fun s=>FP (vT (sO x.name) s)) (jO ks l) x.aliases d.many (fun b hb=>
  by
   unfold FP;rw[join_self (d.alias b hb) (by
    unfold x7 at e;rw[QQ]at e;have:=e b hb;unfold tK at this;simp at this;by_cases h:sO x.name=[];·exact .inl h
    ·exact .inr (this h))]
   rfl) p
 unfold zJ;simp only[Ba o,k,uy,Ba g,q,Gz,Option.getD_some,DH,tM,uA,d.kind,wF,tX,n];have:decide ((0:Int)<= -1)=false:=bH;rw[this,tX,m]
def BN(h:S[a]? =some x)(b:Met S a m):Met S (a+1) (m.set a true):=by
 have e:a<S.length:=(rQ.1 h).1;refine⟨by rw[uB];exact b.len,fun i y j g=> ?_⟩;rw[uG];by_cases d:a=i;·subst d;rw[rG rfl,rG (by rw[b.len];exact e)];simp
 ·rw[rB d,b.iff i y j g];omega
def yy(j:S[a]? =some x)(h:sr x.kind=false)(e:Met S a m):Met S (a+1) m:=by
 refine⟨e.len,fun i y b d=> ?_⟩;rw[e.iff i y b d];by_cases g:a=i;·subst g;rw[j]at b;injection b with b;subst b;rw[h]at d;cases d
 ·omega
def Ei{p:afs->Bool}{all:List afs}:∀(l:List afs)(j:Nat),all.drop j=l->Eh p all j l=true->∀i s,l[i]? =some s->p s=true/\(all.take (j+i)).contains s=false
 | [],j,_,_,i,s,h=>ic
 |x::r,j,b,h,i,s,a=>
 by
  simp only[Eh,rO,xt]at h;cases i with
  |zero=>simp at a;subst a;exact h.1
  |succ i=>have:=Ei (p:=p) (all:=all) r (j+1) (by rw[<-Bf,b];rfl) h.2 i s (by simpa using a);rw[show j+(i+1)=j+1+i from V];exact this
def TS(all:List afs):∀(l:List afs)(j:Nat),all.drop j=l->Eh xj all j l=true->Zt all j l 0=0
 | [],j,_,_=>rfl
 |x::r,j,a,h=>by have:=Ei (x::r) j a h 0 x rfl;simp only[Eh,rO,xt]at h;unfold Zt;rw[h.1.1,h.1.2,tM,tX,tX];exact TS all r (j+1) (by rw[<-Bf,a];rfl) h.2
def JG(h:BV j J.zero=true):j=J.zero:=by
 obtain⟨k,i,t,l,ks⟩:=j;unfold J.zero at*;cases l with
 |nil=>simp[BV,BU]at h;simp[h]
 |cons x r=>simp[BV,BU]at h
def Za(hn:sr x.kind=true):1<=x.kind/\x.kind<=14/\x.kind≠13/\¬x.kind=11/\¬x.kind=12/\¬x.kind<=8:=fO
def Rl(ok:LP S){ar:afs}{a F:Nat}{x:Nd}(i:S[a]? =some x)(d:x.kind=10)(G:x7 x=false):uf (F+1) (jO (BH x++[tY]++opt x.has sS) (AF x++[BY x.symbols]++opt x.has (jT x.sL))) ar (tj S a) 0=((a:Int),(S.take (a+1)).drop a,0):=by
 have n:a<S.length:=(rQ.1 i).1;have E:sr x.kind=true:=by rw[d];rfl
 obtain⟨m,k⟩:=Ja (ok.node x (rU i)) d;rw[take_one i,Dg];unfold Mf at m;simp only[rO,sd,CL]at m;obtain⟨⟨o,e⟩,H,A,B⟩:=m;have hlen:(BH x++[tY]++opt x.has sS).length=(AF x++[BY x.symbols]++opt x.has (jT x.sL)).length:=oW;have q:uw (jO (BH x++[tY]++opt x.has sS) (AF x++[BY x.symbols]++opt x.has (jT x.sL))) tC=some (jT (tI x.kind)):=dh;have r:uw (jO (BH x++[tY]++opt x.has sS) (AF x++[BY x.symbols]++opt x.has (jT x.sL))) vi=some (jT (vU x.name)):=dh;have t:uw (jO (BH x++[tY]++opt x.has sS) (AF x++[BY x.symbols]++opt x.has (jT x.sL))) uM=some (jT (sO x.name)):=dh;have v:uw (jO (BH x++[tY]++opt x.has sS) (AF x++[BY x.symbols]++opt x.has (jT x.sL))) tz=if tK x.aliases=true then some (BY x.aliases)else none:=ey;have z:uw (jO (BH x++[tY]++opt x.has sS) (AF x++[BY x.symbols]++opt x.has (jT x.sL))) tY=some (BY x.symbols):=ey;have b:uw (jO (BH x++[tY]++opt x.has sS) (AF x++[BY x.symbols]++opt x.has (jT x.sL))) sS=if x.has=true then some (jT x.sL)else none:=ey;have C:=Ff ok i E G ar _ _ r t v;generalize jO (BH x++[tY]++opt x.has sS) (AF x++[BY x.symbols]++opt x.has (jT x.sL))=j at*;have D:(wJ (tI x.kind):Int)=x.kind:=BM x.kind V V V;unfold yi;simp only[Ba q,uy,D];rw[rB V,rB V,rB V,rG d,C];obtain⟨p,_⟩:=getD_some z;unfold FL;rw[p,Na _ A];simp only[rI (show¬x.symbols.length=0 from V),tX,TS x.symbols x.symbols 0 rfl B];cases g:x.has with
 |true=>rw[g]at b o;obtain⟨_,l⟩:=getD_some (b.trans (rG rfl));rw[l,rG rfl,Ba (b.trans (rG rfl))];simp only;rw[<-o,tM,tX,Ek ok n];rw[g]at k;rw[d,<-k]
 |false=>rw[g]at b e;obtain⟨_,l⟩:=getD_none (b.trans (rB bA));have e:x.sL=[]:=e.resolve_left bA;rw[l,rB bA,Ek ok n];rw[g,e]at k;rw[d];exact CF (fun y=>((a:Int),[y],(0:Int))) k.symm
def Ol(ok:LP S){ar:afs}{a F:Nat}{x:Nd}(d:S[a]? =some x)(b:x.kind=14)(r:x7 x=false):uf (F+1) (jO (BH x++[xp]) (AF x++[jN x.size])) ar (tj S a) 0=((a:Int),(S.take (a+1)).drop a,0):=by
 have n:a<S.length:=(rQ.1 d).1;have q:sr x.kind=true:=by rw[b];rfl
 obtain⟨v,t⟩:=G9 (ok.node x (rU d)) b;rw[take_one d,Dg];have hlen:(BH x++[xp]).length=(AF x++[jN x.size]).length:=dQ;have g:uw (jO (BH x++[xp]) (AF x++[jN x.size])) tC=some (jT (tI x.kind)):=dh;have i:uw (jO (BH x++[xp]) (AF x++[jN x.size])) vi=some (jT (vU x.name)):=dh;have k:uw (jO (BH x++[xp]) (AF x++[jN x.size])) uM=some (jT (sO x.name)):=dh;have l:uw (jO (BH x++[xp]) (AF x++[jN x.size])) tz=if tK x.aliases=true then some (BY x.aliases)else none:=dI;have m:uw (jO (BH x++[xp]) (AF x++[jN x.size])) xp=some (jN x.size):=dI;have o:=Ff ok d q r ar _ _ i k l;generalize jO (BH x++[xp]) (AF x++[jN x.size])=j at*;have p:(wJ (tI x.kind):Int)=x.kind:=BM x.kind V V V;unfold yi;simp only[Ba g,uy,p];rw[rB V,rB V,rB V,rB V,rG b,o];obtain⟨e,_⟩:=getD_some m;unfold G5;rw[e];show wi _ _ (sM (decide (x.size<0)||decide (1000<x.size)) 3 (sM (!decide ((3:Int)=3)) 30 0))=_;rw[rI (show¬x.size<0 from V),rI (show¬1000<x.size from V),Cr,tX,rY rfl,tM,tX,Ek ok n];show((a:Int),[{CH with kind:=x.kind,name:=x.name,aliases:=x.aliases,size:=x.size}],(0:Int))=_;rw[b,<-t]
def Oi(h:Cd f=true)(q:xj f.name=true)(p:l.any (fun r=>decide (r.name=f.name))=false)(o:j.kind=6)(k:uw j vi=some (jT f.name))(m:uw j tz=if tK f.aliases=true then some (BY f.aliases)else none)(a:uw j sS=if f.has=true then some f.sL else none):DK j l 0=({f with type:=0},0):=by
 unfold Cd Kd at h;simp only[rO,sd,wG]at h;have n:=G1 (fun s=>(s,xj s)) j f.aliases h.1.1 (fun b hb=>by rw[h.1.2 b hb]) m;unfold DK;rw[o,rY rfl,tM,tX,Ba k];simp only[q,p,tM,tX,n];have i:=h.2;cases d:f.has with
 |true=>rw[d]at a;obtain⟨e,g⟩:=getD_some (a.trans (rG rfl));rw[e,g,<-d]
 |false=>rw[d]at a i;obtain⟨e,g⟩:=getD_none (a.trans (rB bA));rw[rB bA]at i;rw[e,g,<-JG i,<-d]
def MP{b:Nat->Sh->J×Sh}{ar:afs}(W:LN b)(all:List Fd)(a F:Nat)(Z:∀f∈all,Cd f=true)(L:CX xj (all.map (·.name))=true):∀(fs:List Fd)(d R j:Nat)(m:List Bool),CP S b ar (fs.map (·.type)) d R->a<d->Met S d m->(vC b fs (m,false)).2.2=false->SizeOf.sizeOf (vC b fs (m,false)).1<F+1->all.drop j=fs->Met S R (vC b fs (m,false)).2.1/\L2 (fun j=>uf F j ar) (tj S (a+1)) (vC b fs (m,false)).1 (all.take j) ((S.take d).drop (a+1)) 0=(((tj S (a+1)).length:Int)-1,all,(S.take R).drop (a+1),0):=by
 intro fs;induction fs with
 |nil=>intro d R j m k I n g o hd;cases k;refine⟨n,?_⟩;have:all.take j=all:=kH;simp only[vC,L2,this]
 |cons f fs a3=>
  intro d R j m k I n g o hd;cases k with
  |cons e T=>
   rename_i y;have e:I2 S b ar f.type d y:=e;obtain⟨U,a4,e⟩:=e;have a2:=Fv W fs _ g;have v:(b f.type.toNat (m,false)).2.2=false:=a2;obtain⟨X,hb⟩:=e m n v;have N:=ML _ v;have a0:(vC b (f::fs) (m,false))=((EM b f (m,false)).1::(vC b fs ((b f.type.toNat (m,false)).2.1,false)).1,(vC b fs ((b f.type.toNat (m,false)).2.1,false)).2):=by show((EM b f (m,false)).1::(vC b fs (b f.type.toNat (m,false)).2).1,(vC b fs (b f.type.toNat (m,false)).2).2)=_;rw[N]
   rw[a0]at g o|-;simp only[List.cons.sizeOf_spec]at g o|-;have a5:SizeOf.sizeOf (b f.type.toNat (m,false)).1<SizeOf.sizeOf (EM b f (m,false)).1:=by unfold EM jO;simp only[J.mk.sizeOf_spec];have:SizeOf.sizeOf (b f.type.toNat (m,false)).1<SizeOf.sizeOf ([jT f.name,(b f.type.toNat (m,false)).1]++opt (tK f.aliases) (BY f.aliases)++opt f.has f.sL):=MZ bA;omega
   have hb:=hb F V;have Mn:j<all.length:=gJ;have t:=rM Mn;rw[hd]at t;injection t with hk1 hk2;have a1:all.take (j+1)=all.take j++[f]:=jY;have Q:tj S (a+1)++((S.take d).drop (a+1)).map td=tj S d:=En S V;obtain⟨G,H⟩:=a3 y R (j+1) _ T V X g V hk2.symm;refine⟨G,?_⟩;have i:=Ei (p:=xj) (all:=all.map fun x:Fd=>x.name) (all.map fun x:Fd=>x.name) 0 rfl L j f.name (by rw[wg,rD Mn,<-hk1];rfl);rw[tq]at i;have K:(all.take j).any (fun q=>decide (q.name=f.name))=false:=by rw[QQ];intro q Y M;have r:=i.2;rw[<-Ga,BX]at r;apply r;rw[<-List.map_take];exact ti.2 ⟨q,Y,by simpa using M⟩
   have hlen:([vi,tC]++opt (tK f.aliases) tz++opt f.has sS).length=([jT f.name,(b f.type.toNat (m,false)).1]++opt (tK f.aliases) (BY f.aliases)++opt f.has f.sL).length:=ie;have B:uw (EM b f (m,false)).1 vi=some (jT f.name):=by unfold EM;exact dh
   have C:uw (EM b f (m,false)).1 tC=some (b f.type.toNat (m,false)).1:=by unfold EM;exact dh
   have D:uw (EM b f (m,false)).1 tz=if tK f.aliases=true then some (BY f.aliases)else none:=pj;have E:uw (EM b f (m,false)).1 sS=if f.has=true then some f.sL else none:=pj;have O:=Oi (l:=all.take j) (Z f (by rw[hk1];exact sj Mn)) i.1 K rfl B D E;obtain⟨z,A⟩:=getD_some C;unfold L2;rw[rG rfl,O];simp only[A,tM,tX,uy,z,Q,hb,Fb S (show a+1<=d from V) U];rw[<-a1];exact H
def FW(ok:LP S){b:Nat->Sh->J×Sh}{ar:afs}(N:LN b){a R F:Nat}{x:Nd}{m:List Bool}(d:S[a]? =some x)(g:x.kind=9)(Y:x7 x=false)(p:CP S b (sO x.name) (x.fields.map (·.type)) (a+1) R)(O:Met S (a+1) m)(X:(vC b x.fields (m,false)).2.2=false)(l:SizeOf.sizeOf (jO (BH x++[ui]) (AF x++[jL (vC b x.fields (m,false)).1]))<F):Met S R (vC b x.fields (m,false)).2.1/\uf F (jO (BH x++[ui]) (AF x++[jL (vC b x.fields (m,false)).1])) ar (tj S a) 0=((a:Int),(S.take R).drop a,0):=by
 have o:a<S.length:=(rQ.1 d).1;have Q:sr x.kind=true:=by rw[g];rfl
 obtain⟨i,Z⟩:=CU (ok.node x (rU d)) g;obtain⟨F,rfl⟩:∃q,F=q+1:=⟨F-1,V⟩;unfold yO at i;simp only[rO,sd,wG]at i;obtain⟨E,a3,C⟩:=i;have D:(S.take (a+1)).drop (a+1)=[]:=jf;have M:∀(fs:List Fd)(st:Sh),(vC b fs st).1.length=fs.length:=by
  intro fs;induction fs with
  |nil=>intro st;rfl
  |cons k ks a2=>intro st;simp only[vC,rP,a2]
 have W:SizeOf.sizeOf (vC b x.fields (m,false)).1<F+1:=by have e:SizeOf.sizeOf (jL (vC b x.fields (m,false)).1)<SizeOf.sizeOf (AF x++[jL (vC b x.fields (m,false)).1]):=MZ bA;unfold jO at l;unfold jL at e l;simp only[J.mk.sizeOf_spec]at l e;omega
 obtain⟨e,n⟩:=MP N x.fields a F E C x.fields (a+1) R 0 m p V O X W rfl;refine⟨e,?_⟩;rw[List.take_zero,D]at n;have K:=M x.fields (m,false);generalize(vC b x.fields (m,false)).1=L at*;have hlen:(BH x++[ui]).length=(AF x++[jL L]).length:=dQ;have t:uw (jO (BH x++[ui]) (AF x++[jL L])) tC=some (jT (tI x.kind)):=dh;have v:uw (jO (BH x++[ui]) (AF x++[jL L])) vi=some (jT (vU x.name)):=dh;have y:uw (jO (BH x++[ui]) (AF x++[jL L])) uM=some (jT (sO x.name)):=dh;have z:uw (jO (BH x++[ui]) (AF x++[jL L])) tz=if tK x.aliases=true then some (BY x.aliases)else none:=dI;have A:uw (jO (BH x++[ui]) (AF x++[jL L])) ui=some (jL L):=dI;have G:=Ff ok d Q Y ar _ _ v y z;rw[Dg];generalize jO (BH x++[ui]) (AF x++[jL L])=j at*;have H:(wJ (tI x.kind):Int)=x.kind:=BM x.kind V V V;unfold yi;simp only[Ba t,uy,H];rw[rB V,rB V,rG g,G];obtain⟨r,_⟩:=getD_some A;have I:=Eo S (zE o);have a4:=ok.le;have B:decide (200<=(tj S a).length)=false:=rI (by rw[I];omega);unfold Ad;have a0:(jL L).items=L:=rfl;have a1:(jL L).kind=5:=rfl;rw[r,a0,a1,B,tX,rY rfl,tM,tX,K,rI (show¬40<x.fields.length from V),tX];have T:=Mm d;have U:tj S a++[td {CH with kind:=x.kind,name:=x.name,aliases:=x.aliases}]=tj S (a+1):=T.symm;simp only[uy,U,n];rw[take_split d p.le,Eo S o];have:(((a+1:Nat):Int)-1)=a:=V;rw[this,g,<-Z]
def Sy(ok:LP S):∀(f a b:Nat),ye S f a=some b->∀(F:Nat)(ar:afs),F=f+1->I2 S (xS S F ar) ar (a:Int) a b:=by
 intro f;induction f with
 |zero=>intro a b h;cases h
 |succ f L=>
  intro a b h F ar j;subst j;simp only[ye]at h;cases g:S[a]? with
  |none=>rw[g]at h;cases h
  |some x=>
   rw[g]at h;have C:a<S.length:=(rQ.1 g).1;have Mo:∀r,CP S (xS S (f+1) r) r (uk x) (a+1) b:=fun r=>UJ ok (f:=f) rfl (ye S f) (fun a b h=>L a b h (f+1) r rfl) _ _ _ h
   have M:=(Mo []).le;refine⟨V,V,fun m t d=> ?_⟩;rw[su]at d|-;have z:=ok.node x (rU g);unfold xS at d|-;simp only[g]at d|-;by_cases v:x.kind<=8;·obtain⟨B,K⟩:=TP z v;have i:sr x.kind=false:=lm;have Xu:uk x=[]:=pT;obtain rfl:b=a+1:=ib;rw[rG v]at d|-;refine⟨yy g i t,fun F j=> ?_⟩;obtain⟨F,rfl⟩:∃o,F=o+1:=⟨F-1,V⟩;have E:=BM x.kind B V V;rw[G6,take_one g];unfold zX;rw[rG V,E,<-K,Ek ok C]
   rw[rB v]at d|-;cases i:sr x.kind with
   |true=>
    have N:=Za i;have G:=t.iff a x g i;have I:¬m[a]? =some true:=fun e=>ER _ (G.1 e)
    simp only[i,uy,rB I,uA]at d|-;have n:=BN g t;generalize m.set a true=O at*;have q:x7 x=false:=MW (C9 S (f+1) _) x _ d;rw[q]at d|-;have D:x.kind=9\/x.kind=10\/x.kind=14:=by unfold sr at i;simpa[or_assoc]using i
    unfold MV at d|-;rcases D with l|l|l
    ·rw[rG l]at d|-;have Xu:uk x=x.fields.map (·.type):=by unfold uk;rw[rG l]
     have k:=Mo (sO x.name);rw[Xu]at k;have:=FW ok (ar:=ar) (C9 S (f+1) (sO x.name)) g l q k n d (xU _);exact⟨this.1,fun F j=>(FW ok (ar:=ar) (C9 S (f+1) (sO x.name)) g l q k n d j).2⟩
    ·have Xu:uk x=[]:=pT;obtain rfl:b=a+1:=ib;rw[rB V,rG l]at d|-;refine⟨n,fun F j=> ?_⟩;obtain⟨F,rfl⟩:∃o,F=o+1:=⟨F-1,V⟩;exact Rl ok g l q
    ·have Xu:uk x=[]:=pT;obtain rfl:b=a+1:=ib;rw[rB V,rB V]at d|-;refine⟨n,fun F j=> ?_⟩;obtain⟨F,rfl⟩:∃o,F=o+1:=⟨F-1,V⟩;exact Ol ok g l q
   |false=>
    have n:=yy g i t;simp only[i,ym,xy]at d|-;by_cases p:x.kind=13
    ·rw[rG p]at d|-;have Xu:uk x=x.rX:=by unfold uk;rw[rB V,rB V,rG p]
     have k:=Mo ar;rw[Xu]at k;have:=Im ok (C9 S (f+1) ar) g p k n d (xU _);exact⟨this.1,fun F j=>(Im ok (C9 S (f+1) ar) g p k n d j).2⟩
    ·rw[rB p]at d|-;have y:x.kind=11\/x.kind=12:=by unfold vM at z;simp only[rO,sd]at z;unfold sr at i;simp at i;omega
     have Xu:uk x=[x.items]:=by unfold uk;rw[rB V,rG y]
     have k:=Mo ar;rw[Xu]at k;cases k with
     |cons A H=>cases H;have:=Jt ok (F:=SizeOf.sizeOf (jO [tC,if x.kind=12 then wP else uW] [jT (tI x.kind),(xS S (f+1) ar x.items.toNat (m,false)).1])+1) g y A n d (xU _);exact⟨this.1,fun F j=>(Jt ok g y A n d j).2⟩
def Mc:∀f u,(vB f u).length<=f+1
 |0,u=>by simp[vB]
 |f+1,u=>
 by
  unfold vB;split;·have:=Mc f (u/10);simp;omega
  ·simp
def MH(n:Int):(zZ n).length<=22:=by unfold zZ;have:=Mc 20 n.natAbs;split<;>simp<;>omega
def H9(s:afs):(sB s).length<=6*s.length+2:=by unfold sB;have:=Hp s;exact kQ
def aaD(Z:J1 N)(k i:Int)(text:afs)(items:List J)(keys:List afs)(az:SizeOf.sizeOf (J.mk k i text items keys)<=N+1)(b3:yF (.mk k i text items keys))(w:World)(b l:Nat)(st:St)(X:afu)(A:aft)(n c:Nat)(A':aft)(n' c':Nat){G:List (List Value)}(b2:Row w X 5 A n G)(a4:G.length=items.length)(ad:∀(i:Nat)(h:i<G.length)(W:i<items.length),uq w X G[i] items[i])(aU:Row w X 1 A' n' (uL keys))(a1:n<=100000000)(ab:n'<=100000000)(hX:∀x,X x->x<b)(hp:Lx w b l st):Calls Tryz.prog 60 #[sg b,jA k i ⟨text.toArray⟩ A n c A' n' c'] w fun e w'=>e=.returned (.tuple #[])/\Lx w' b l (yB (.mk k i text items keys) st)/\sa b l w w'/\z8 b w w':=by
 obtain⟨b9,b1,af,an,a9,ar⟩:text.length<=1000000/\(∀x∈keys,x.length<=1000000)/\ -9223372036854775808<=i/\i<=9223372036854775807/\(¬(k=1\/k=2\/k=3\/k=4\/k=5)->keys.length=items.length)/\∀x∈items,yF x:=by
  cases b3 with
  |mk a b c d e f=>exact⟨a,b,c,d,e,f⟩
 simp only[J.mk.sizeOf_spec]at az;have a3:∀x∈items,SizeOf.sizeOf x<=N/\yF x:=fun x hx=>⟨fM,ar x hx⟩
 have b7:b<l:=fh;have O:l<=w.heap.size:=by obtain⟨_,_,_,_,_,_,_,_,h,_⟩:=hp;exact h
 obtain⟨R,H⟩:=sW (yB (.mk k i text items keys) st);rw[<-H];unfold yB at H;have y:=rz H;clear H;have r:=((afw w).al rV (.cells #[sg b] 135)).alloc bA (jC k i ⟨text.toArray⟩ A n c A' n' c');have C:CM ((w.alloc (.cells #[sg b] 135)).alloc (jC k i ⟨text.toArray⟩ A n c A' n' c')) w.heap.size b:=(Below.heap_alloc _ _ _ bA).trans (World.alloc_heap_new w _);have D:BZ ((w.alloc (.cells #[sg b] 135)).alloc (jC k i ⟨text.toArray⟩ A n c A' n' c')) (w.heap.size+1) k i ⟨text.toArray⟩ A n c A' n' c':=by have h:=World.alloc_heap_new (w.alloc (.cells #[sg b] 135)) (jC k i ⟨text.toArray⟩ A n c A' n' c');rw[World.size_alloc]at h;exact h
 have b8:=r.s2;have t:=hp.below r;have SY:sa b l w ((w.alloc (.cells #[sg b] 135)).alloc (jC k i ⟨text.toArray⟩ A n c A' n' c')):=sa.of (r.mono O);have hf1:z8 b w ((w.alloc (.cells #[sg b] 135)).alloc (jC k i ⟨text.toArray⟩ A n c A' n' c')):=z8.below r;have a6:=b2.keep (Y:=X) (fun q hq=>r.cell bM) ug;have a2:=fun j h W=>(ad j h W).keep (Y:=X) (fun q hq=>r.cell bM) ug
 have b0:=aU.keep (Y:=X) (fun q hq=>r.cell bM) ug;have a0:l<=((w.alloc (.cells #[sg b] 135)).alloc (jC k i ⟨text.toArray⟩ A n c A' n' c')).heap.size:=V;go_enter Tryz.func60,Tryz.ntmps60;go_upto_region 1 with fail;generalize(w.alloc _).alloc _=w1 at*;obtain⟨j0,bd,be,bj,bk⟩:=D.at_;have b6:=C.c0;by_cases p:k=1
 ·have h:=y.out;rw[rG p]at h;have HH:=rz h;subst p;clear h;go_wp2_with fail;refine sG (xr b l st [110,117,108,108] w1 t bA) fun M ⟨SZ,Dy,YS⟩=> ?_
  exact bR
 have bn:(k==1)=false:=rA.2 p;by_cases v:k=2
 ·have h:=y.out;rw[rB p,rG v]at h;have HH:=rz h;subst v;clear h;by_cases I:i=1
  ·have h:=HH.out;rw[rG I]at h;have HH:=rz h;subst I;clear h;go_wp2_with fail;refine sG (xr b l st [116,114,117,101] w1 t bA) fun M ⟨SZ,Dy,YS⟩=> ?_
   exact bR
  ·have h:=HH.out;rw[rB I]at h;have HH:=rz h;have bw:(i==1)=false:=rA.2 I;clear h;go_wp2_with fail;refine sG (xr b l st [102,97,108,115,101] w1 t bA) fun M ⟨SZ,Dy,YS⟩=> ?_
   exact bR
 have bp:(k==2)=false:=rA.2 v;by_cases z:k=3
 ·have h:=y.out;rw[rB p,rB v,rG z]at h;have HH:=rz h;subst z;clear h;go_upto_region 11 with fail;refine sR (K:=GQ b l) (OE b l) (sA.of [0,1,2,3,4,5] .nil) [3,4,5] bm bm bF bm bt (fun we o b4=> ?_);have hBe:=C.Ew (z8.below o) V;have hJe:=D.Ew (z8.below (b:=b) o) V;have T:=t.below o;have hoe:=SY.trans (sa.of (g:=b) (o.mono a0));have hfe:=hf1.trans (z8.below o);have aa:l<=we.heap.size:=V;refine aI ?_;refine se rfl rfl we.heap.size V (fun B tv=> ?_);go_wp2_with fail;refine(NH none 0 0 we.heap.size [] i af an we (Mem.Own.nil _ _) V rV).mono ?_;rintro e' U ⟨a7,m,c2,rfl,E,Rs⟩;rw[so]at E;go_wp2_with fail;refine tv _ _ (GQ.below Rs V) ?_;refine aI ?_;refine se rfl rfl we.heap.size V (fun B tv=> ?_);go_wp2_with(with_reducible refine zy rfl rfl E.rd ?_);refine tv _ _ (GQ.below xn V) ?_;refine se rfl rfl we.heap.size V (fun B tv=> ?_);have S:=T.below Rs;go_wp2_with fail;refine sG (xr b l st _ U S (by have:=MH i;omega)) fun b5 ⟨YV,P5,Ns⟩=> ?_
  exact mN
 have br:(k==3)=false:=rA.2 z;by_cases F:k=4
 ·have h:=y.out;rw[rB p,rB v,rB z,rG F]at h;have HH:=rz h;subst F;clear h;go_upto_region 13 with fail;refine sR (K:=GQ b l) (OE b l) (sA.of [0,1,2,3,4,5] .nil) [3,4,5] bm bm bF bm bt (fun we o b4=> ?_);have hBe:=C.Ew (z8.below o) V;have hJe:=D.Ew (z8.below (b:=b) o) V;have T:=t.below o;have hoe:=SY.trans (sa.of (g:=b) (o.mono a0));have hfe:=hf1.trans (z8.below o);have aa:l<=we.heap.size:=V;refine aI ?_;refine se rfl rfl we.heap.size V (fun B tv=> ?_);go_wp2_with fail;refine(ES none 0 0 we.heap.size [] text we (Mem.Own.nil _ _) V V rV).mono ?_;rintro e' U ⟨a7,m,c2,rfl,E,Rs⟩;rw[so]at E;go_wp2_with fail;refine tv _ _ (GQ.below Rs V) ?_;refine aI ?_;refine se rfl rfl we.heap.size V (fun B tv=> ?_);go_wp2_with(with_reducible refine zy rfl rfl E.rd ?_);refine tv _ _ (GQ.below xn V) ?_;refine se rfl rfl we.heap.size V (fun B tv=> ?_);have S:=T.below Rs;go_wp2_with fail;refine sG (xr b l st _ U S (by have:=H9 text;omega)) fun b5 ⟨YV,P5,Ns⟩=> ?_
  exact mN
 have bs:(k==4)=false:=rA.2 F;by_cases L:k=5
 ·have h:=y.out;rw[rB p,rB v,rB z,rB F,rG L]at h;have HH:=rz h;subst L;clear h;go_wp2_with fail;refine sG (Rj N Z w.heap.size (w.heap.size+1) b l st items a3 w1 X 5 i ⟨text.toArray⟩ A n c A' n' c' a6 a4 a2 hX a1 C D O V t) fun M ⟨SZ,Dy,YS⟩=> ?_
  exact bR
 have bv:(k==5)=false:=rA.2 L;have h:=y.out;rw[rB p,rB v,rB z,rB F,rB L]at h;have HH:=rz h;have a5:=a9 V;have a8:=rz a5;clear h a5;go_wp2_with fail;refine sG (Ui N Z w.heap.size (w.heap.size+1) b l st items keys a8.out b1 a3 w1 X k i ⟨text.toArray⟩ A n c A' n' c' a6 a4 a2 b0 hX a1 ab C D O V t) fun M ⟨SZ,Dy,YS⟩=> ?_
 exact bR
def VM:∀N,J1 N:=by
 intro N;induction N with
 |zero=>exact fq
 |succ N v=>
  intro j hj r w b a st X k i t A n c A' n' c' h d p;cases h with
  |mk q o l m x y e g=>exact aaD N v k i _ _ _ hj r w b a st X A n c A' n' c' q o l m e g d p
def Xh{x:J}{key:afs}(h:uw j key=some x):SizeOf.sizeOf x<SizeOf.sizeOf j:=by
 unfold uw at h;split at h;·have h1:=wX (rU h);exact lh
 ·cases h
def Ku{key:afs}(h:has j key=true):SizeOf.sizeOf (getD j key)<SizeOf.sizeOf j:=by
 unfold has at h;unfold getD;cases a:uw j key with
 |none=>rw[a]at h;cases h
 |some x=>exact Xh a
def Qa{x:J}(h:x∈j.items):SizeOf.sizeOf x<SizeOf.sizeOf j:=by have h1:=wX h;exact lh
def xD(d:c≠0)(h:sM b c e=0):b=false/\e=0:=by
 unfold sM at h;split at h;·exact absurd h d
 ·rename_i a;exact⟨by cases b with|false=>rfl|true=>exact absurd ⟨rfl,h⟩ a,h⟩
def Jh(full:afs):∀(l:List Hd)(i:Nat),zj full i l= -1\/((i:Int)<=zj full i l/\zj full i l<(i:Int)+l.length)
 | [],i=>.inl rfl
 |h::r,i=>
 by
  unfold zj;split;·exact .inr ⟨Cz _,kX⟩
  ·rcases Jh full r (i+1)with h|h;·exact .inl h
   ·simp only[rP];exact .inr ⟨V,V⟩
def W0(a:List Hd)(r:Bn):Prop:=r.2.2=0->0<=r.1/\r.1<(a.length:Int)+r.2.1.length
def Hs(a:List Hd)(e:Int):W0 a (wi n a e):=by
 unfold wi W0;split;·intro _;exact oq
 ·intro h;rename_i b;exact absurd h b
def ME(s ar:afs)(a:List Hd)(e:Int):W0 a (zX s ar a e):=by
 unfold zX;split;·exact Hs _ _ _
 ·intro h;have b:=xD bH h;have d:=Jh (Gz (vT ar s)) a 0;have g:¬Ab a (Gz (vT ar s))<0:=of_decide_eq_false b.1;unfold Ab at*;simp only[sl];omega
def T6(nd:J->List Hd->Int->Bn)(b:List Hd):∀(l:List J)(d:List Int)(new:List Nd)(e:Int),(L4 nd b l d new e).2.2.2=0->(L4 nd b l d new e).1=b.length-1
 | [],_,_,_,_=>rfl
 |j::r,d,new,e,h=>
 by
  unfold L4 at h|-;split;·rename_i a;rw[rG a]at h;exact T6 nd b r _ _ _ h
  ·rename_i a;rw[rB a]at h;exact absurd h a
def N0(nd:J->List Hd->Int->Bn)(a:List Hd):∀(l:List J)(fs:List Fd)(new:List Nd)(e:Int),(L2 nd a l fs new e).2.2.2=0->(L2 nd a l fs new e).1=a.length-1
 | [],_,_,_,_=>rfl
 |x::r,fs,new,e,h=>
 by
  unfold L2 at h|-;by_cases b:e=0
  ·rw[rG b]at h|-;simp only at h|-;split;·rename_i d;rw[rG d]at h;exact N0 nd a r _ _ _ h
   ·rename_i d;rw[rB d]at h;exact N0 nd a r _ _ _ h
  ·rw[rB b]at h;exact absurd h b
def V9(nd:J->List Hd->Int->Bn)(l:List J)(a:List Hd)(e:Int):W0 a (Bl nd l a e):=by
 unfold Bl;split;·intro h;have:=T6 nd _ _ _ _ _ h;simp only at this|-;rw[this];exact fw
 ·exact fJ
def Qg(nd:J->List Hd->Int->Bn)(j:J)(k:Int)(key:afs)(a:List Hd)(e:Int):W0 a (Cu nd j k key a e):=by
 unfold Cu;split;·intro _;exact kX
 ·exact fJ
def Si(nd:J->List Hd->Int->Bn)(j:J)(n:Nd)(a:List Hd)(e:Int):W0 a (Ad nd j n a e):=by
 unfold Ad;simp only;split;·intro h;have:=N0 nd _ _ _ _ _ h;simp only at this|-;rw[this];exact fw
 ·exact fJ
def Xc(j:J)(n:Nd)(a:List Hd)(e:Int):W0 a (FL j n a e):=by unfold FL;simp only;split<;>exact Hs _ _ _
def RZ(nd:J->afs->List Hd->Int->Bn)(j:J)(ar:afs)(a:List Hd)(e:Int):W0 a (yi nd j ar a e):=by
 unfold yi;simp only;split
 ·split;·exact Qg _ _ _ _ _ _
  ·split;·exact Qg _ _ _ _ _ _
   ·split;·exact Si _ _ _ _ _
    ·split;·exact Xc _ _ _ _
     ·split;·exact Hs _ _ _
      ·exact ME _ _ _ _
 ·exact fJ
def XQ(f:Nat)(j:J)(ar:afs)(a:List Hd)(e:Int):W0 a (uf (f+1) j ar a e):=by
 unfold uf;split
 ·split;·exact ME _ _ _ _
  ·split;·exact V9 _ _ _ _
   ·split;·exact RZ _ _ _ _ _
    ·intro h;exact absurd h bH
 ·exact fJ
end
