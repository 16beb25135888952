import Derived.Test.YtccjlcadbpinfaaGreatDoorX19
import Derived.Deep.OwnRows
set_option linter.all false
namespace Go.Proofs.YtccjlcadbpinfaaGreatDoor.Tp
open ChangeShapes WideShapes ChangeAt RowKit
open Num Mem Can
def vw:acM:=[110,97,109,101]
def tp:acM:=[116,121,112,101]
def tg:acM:=[97,108,105,97,115,101,115]
def sF:acM:=[100,101,102,97,117,108,116]
def uV:acM:=[110,97,109,101,115,112,97,99,101]
def ug:acM:=[102,105,101,108,100,115]
def ub:acM:=[115,121,109,98,111,108,115]
def xF:acM:=[115,105,122,101]
def uO:acM:=[105,116,101,109,115]
def wS:acM:=[118,97,108,117,101,115]
def jT(t:acM):J:=.mk 4 0 t [] []
def jL(l:List J):J:=.mk 5 0 [] l []
def jO(ks:List acM)(l:List J):J:=.mk 6 0 [] l ks
def jN(n:Int):J:=.mk 3 n [] [] []
abbrev Sh:=List Bool×Bool
def opt{a:Type}(b:Bool)(x:a):List a:=if b=true then [x]else []
def tq{a:Type}(l:List a):Bool:= !l.isEmpty
def Cm(l:List acM):J:=jL (l.map jT)
def BY(a:Nat->Sh->J×Sh):List Int->Sh->List J×Sh
 | [],st=>([],st)
 |k::r,st=>((a k.toNat st).1::(BY a r (a k.toNat st).2).1,(BY a r (a k.toNat st).2).2)
def H7(a:Nat->Sh->J×Sh)(f:Fd)(st:Sh):J×Sh:=(jO ([vw,tp]++opt (tq f.aliases) tg++opt f.has sF) ([jT f.name,(a f.type.toNat st).1]++opt (tq f.aliases) (Cm f.aliases)++opt f.has f.sO),(a f.type.toNat st).2)
def v7(a:Nat->Sh->J×Sh):List Fd->Sh->List J×Sh
 | [],st=>([],st)
 |f::r,st=>((H7 a f st).1::(v7 a r (H7 a f st).2).1,(v7 a r (H7 a f st).2).2)
def xW(x:Nd):Bool:=x.aliases.any fun a=>tq (sE x.name)&& !tq (sE a)
def BL(x:Nd):List acM:=[tp,vw,uV]++opt (tq x.aliases) tg
def Au(x:Nd):List J:=[jT (tu x.kind),jT (xk x.name),jT (sE x.name)]++opt (tq x.aliases) (Cm x.aliases)
def Pv(a:Nat->Sh->J×Sh)(x:Nd)(st:Sh):J×Sh:=if x.kind=9 then(jO (BL x++[ug]) (Au x++[jL (v7 a x.fields st).1]),(v7 a x.fields st).2)else if x.kind=10 then(jO (BL x++[ub]++opt x.has sF) (Au x++[Cm x.symbols]++opt x.has (jT x.sO)),st)else(jO (BL x++[xF]) (Au x++[jN x.size]),st)
def x8(S:List Nd):Nat->acM->Nat->Sh->J×Sh
 |0,_,_,st=>(J.zero,st)
 |f+1,ar,a,st=>
 match S[a]? with
 |none=>(J.zero,st)
 |some x=>if x.kind<=8 then(jT (tu x.kind),st)else if sf x.kind=true then(if st.1[a]? =some true then(jT x.name,(st.1,st.2||(tq ar&& !tq (sE x.name))))else Pv (x8 S f (sE x.name)) x (st.1.set a true,st.2||xW x))else if x.kind=13 then(jL (BY (x8 S f ar) x.rR st).1,(BY (x8 S f ar) x.rR st).2)else(jO [tp,if x.kind=12 then wS else uO] [jT (tu x.kind),(x8 S f ar x.items.toNat st).1],(x8 S f ar x.items.toNat st).2)
def sq(a:Bool)(c e:Int):Int:=if a=true/\e=0 then c else e
abbrev Hd:=Int×acM
def sQ(x:Nd):Hd:=(x.kind,x.name)
def getD(j:J)(key:acM):J:=(tZ j key).getD J.zero
def has(j:J)(key:acM):Bool:=(tZ j key).isSome
def Cn:Nd:=⟨0,[],[],[],[],false,[],0,0,[]⟩
def xf(j:J)(key:acM)(e:Int):acM×Int:=((getD j key).text,sq (!has j key|| !decide ((getD j key).kind=4)) 30 e)
def xR(x:J)(e:Int):List acM×Int:=(x.items.map J.text,sq (decide (40<x.items.length)) 3 (x.items.foldl (fun e i=>sq (!decide (i.kind=4)) 30 e) (sq (!decide (x.kind=5)) 30 e)))
def xd(full:acM->acM×Bool)(j:J)(e:Int):List acM×Int:=if has j tg=true then((xR (getD j tg) e).1.map (fun s=>(full s).1),(xR (getD j tg) e).1.foldl (fun e s=>sq (!(full s).2) 31 e) (xR (getD j tg) e).2)else([],e)
abbrev Bn:=Int×List Nd×Int
def vJ(n:Nd)(a:List Hd)(e:Int):Bn:=if sq (decide (200<=a.length)) 3 e=0 then(a.length,[n],0)else(0,[],sq (decide (200<=a.length)) 3 e)
def yS(full:acM):Nat->List Hd->Int
 |_,[]=> -1
 |i,h::r=>if(sf h.1&&decide (h.2=full))=true then i else yS full (i+1) r
def zH(a:List Hd)(full:acM):Int:=yS full 0 a
def FV(a:Option acM):acM:=a.getD []
def zA(s ar:acM)(a:List Hd)(e:Int):Bn:=if 1<=wg s/\wg s<=8 then vJ {Cn with kind:=wg s} a e else(max (zH a (FV (vv ar s))) 0,[],sq (decide (zH a (FV (vv ar s))<0)) 33 (sq (!(vv ar s).isSome) 31 e))
def DW(a:List Hd)(k:Int):Int:=match a[k.toNat]? with|some h=>h.1|none=>0
def AA(a:List Hd)(l:List Int)(k:Int):Bool:= !decide (DW a k=13)&& !(l.any fun b=>decide (b=k)||(!sf (DW a k)&&decide (DW a b=DW a k)))
def Li(nd:J->List Hd->Int->Bn)(a:List Hd):List J->List Int->List Nd->Int->Int×List Int×List Nd×Int
 | [],b,new,e=>(a.length-1,b,new,e)
 |j::r,b,new,e=>if(nd j (a++new.map sQ) e).2.2=0 then Li nd a r (b++[(nd j (a++new.map sQ) e).1]) (new++(nd j (a++new.map sQ) e).2.1) (sq (!AA (a++(new++(nd j (a++new.map sQ) e).2.1).map sQ) b (nd j (a++new.map sQ) e).1) 34 0)else(0,b,new++(nd j (a++new.map sQ) e).2.1,(nd j (a++new.map sQ) e).2.2)
def AQ(nd:J->List Hd->Int->Bn)(l:List J)(a:List Hd)(e:Int):Bn:=if sq (decide (200<=a.length)) 3 (sq (decide (l.length<1)||decide (10<l.length)) 34 e)=0 then((Li nd (a++[(13,[])]) l [] [] 0).1,{Cn with kind:=13,rR:=(Li nd (a++[(13,[])]) l [] [] 0).2.1}::(Li nd (a++[(13,[])]) l [] [] 0).2.2.1,(Li nd (a++[(13,[])]) l [] [] 0).2.2.2)else(0,[],sq (decide (200<=a.length)) 3 (sq (decide (l.length<1)||decide (10<l.length)) 34 e))
def Cd(nd:J->List Hd->Int->Bn)(j:J)(kind:Int)(key:acM)(a:List Hd)(e:Int):Bn:=if sq (decide (200<=a.length)) 3 (sq (!has j key) 30 e)=0 then(a.length,{Cn with kind:=kind,items:=(nd (getD j key) (a++[(kind,[])]) 0).1}::(nd (getD j key) (a++[(kind,[])]) 0).2.1,(nd (getD j key) (a++[(kind,[])]) 0).2.2)else(0,[],sq (decide (200<=a.length)) 3 (sq (!has j key) 30 e))
def Fi(a:Option acM):acM×Bool:=(FV a,a.isSome)
def zi(j:J)(kind:Int)(ar:acM)(d:List Hd)(e:Int):Nd×Int:=let n:=xf j vw e;let s:=if has j uV=true then xf j uV n.2 else([],n.2);let b:=yz n.1 s.1 (has j uV) ar;let a:=xd (fun s=>Fi (vv (sE (FV b)) s)) j (sq (decide (0<=zH d (FV b))) 32 (sq (!b.isSome|| !decide (wg (FV b)=0)) 31 s.2));({Cn with kind:=kind,name:=FV b,aliases:=a.1},a.2)
def Ds(j:J)(l:List Fd)(e:Int):Fd×Int:=let n:=xf j vw (sq (!decide (j.kind=6)) 30 e);let a:=xd (fun s=>(s,wa s)) j (sq (l.any fun b=>decide (b.name=n.1)) 36 (sq (!wa n.1) 31 n.2));(⟨n.1,a.1,0,has j sF,getD j sF⟩,a.2)
def Lg(nd:J->List Hd->Int->Bn)(b:List Hd):List J->List Fd->List Nd->Int->Int×List Fd×List Nd×Int
 | [],a,new,e=>(b.length-1,a,new,e)
 |x::r,a,new,e=>if e=0 then let f:=Ds x a e;let d:=sq (!has x tp) 30 f.2;if d=0 then let q:=nd (getD x tp) (b++new.map sQ) 0;Lg nd b r (a++[{f.1 with type:=q.1}]) (new++q.2.1) q.2.2 else Lg nd b r (a++[f.1]) new d else(0,a,new,e)
def zM(nd:J->List Hd->Int->Bn)(j:J)(n:Nd)(b:List Hd)(e:Int):Bn:=let a:=sq (decide (200<=b.length)) 3 (sq (decide (40<(getD j ug).items.length)) 3 (sq (!decide ((getD j ug).kind=5)) 30 e));if a=0 then let r:=Lg nd (b++[sQ n]) (getD j ug).items [] [] 0;(r.1,{n with fields:=r.2.1}::r.2.2.1,r.2.2.2)else(0,[],a)
def Xv(all:List acM):Nat->List acM->Int->Int
 |_,[],e=>e
 |i,s::r,e=>Xv all (i+1) r (sq ((all.take i).contains s) 36 (sq (!wa s) 31 e))
def Fc(j:J)(n:Nd)(b:List Hd)(e:Int):Bn:=let t:=xR (getD j ub) e;let a:=Xv t.1 0 t.1 (sq (decide (t.1.length=0)) 30 t.2);if has j sF=true then let d:=xf j sF a;vJ {n with symbols:=t.1,has:=true,sO:=d.1} b (sq (!t.1.contains d.1) 35 d.2)else vJ {n with symbols:=t.1,has:=false} b a
def Gv(j:J)(n:Nd)(a:List Hd)(e:Int):Bn:=vJ {n with size:=(getD j xF).int} a (sq (decide ((getD j xF).int<0)||decide (1000<(getD j xF).int)) 3 (sq (!decide ((getD j xF).kind=3)) 30 e))
def xJ(nd:J->acM->List Hd->Int->Bn)(j:J)(ar:acM)(a:List Hd)(e:Int):Bn:=let w:=xf j tp e;if w.2=0 then let k:Int:=wg w.1;if k=11 then Cd (fun j=>nd j ar) j k uO a 0 else if k=12 then Cd (fun j=>nd j ar) j k wS a 0 else if k=9 then(let h:=zi j k ar a 0;zM (fun j=>nd j (sE h.1.name)) j h.1 a h.2)else if k=10 then(let h:=zi j k ar a 0;Fc j h.1 a h.2)else if k=14 then(let h:=zi j k ar a 0;Gv j h.1 a h.2)else zA w.1 ar a 0 else(0,[],w.2)
def tN:Nat->J->acM->List Hd->Int->Bn
 |0,_,_,_,e=>(0,[],e)
 |f+1,j,ar,a,e=>if e=0 then if j.kind=4 then zA j.text ar a 0 else if j.kind=5 then AQ (fun j=>tN f j ar) j.items a 0 else if j.kind=6 then xJ (tN f) j ar a 0 else(0,[],30)else(0,[],e)
def look:List acM->List J->acM->Option J
 |k::ks,x::l,key=>if k=key then some x else look ks l key
 |_,_,_=>none
def Xu(a b:acM):((⟨a.toArray⟩:ByteArray)=⟨b.toArray⟩)↔a=b:=⟨fun h=>by injection h with h;exact(Array.mk.injEq _ _).mp h,fun h=>by rw[h]⟩
def D5(key:acM):∀(ks:List acM)(l:List J)(i:Nat),ks.length=l.length->(Lib.idxFromS (DN ks) ⟨key.toArray⟩ i= -1/\look ks l key=none)\/∃n,Lib.idxFromS (DN ks) ⟨key.toArray⟩ i=((i+n:Nat):Int)/\look ks l key=l[n]?
 | [],[],i,_=>.inl ⟨rfl,rfl⟩
 |k::ks,x::l,i,h=>
 by
  by_cases a:k=key;·right;exact⟨0,by simp[DN,Lib.idxFromS,a],by simp[look,a]⟩
  ·have m:¬(⟨k.toArray⟩:ByteArray)=⟨key.toArray⟩:=fun e=>a ((Xu _ _).1 e)
   have b:Lib.idxFromS (DN (k::ks)) ⟨key.toArray⟩ i=Lib.idxFromS (DN ks) ⟨key.toArray⟩ (i+1):=by simp[DN,Lib.idxFromS,m]
   have d:look (k::ks) (x::l) key=look ks l key:=by simp[look,a]
   rw[b,d];rcases D5 key ks l (i+1) dC with h|⟨n,g,j⟩;·exact .inl h
   ·exact .inr ⟨n+1,by rw[g];omega,by rw[j];simp⟩
def Bh(ks:List acM)(l:List J)(key:acM)(h:ks.length=l.length):tZ (jO ks l) key=look ks l key:=by
 unfold tZ G3 Lib.idxOfS;show(if(6:Int)=6/\0<=Lib.idxFromS (DN ks) ⟨key.toArray⟩ 0 then l[(Lib.idxFromS (DN ks) ⟨key.toArray⟩ 0).toNat]? else none)=_;rcases D5 key ks l 0 h with⟨a,b⟩|⟨n,a,b⟩;·rw[a,b,ru V]
 ·rw[a,b,rv ⟨rfl,V⟩];congr 1;omega
def BI(b:acM):∀(a:acM)(st:Bool),wE st (a++46::b)=true->wE true b=true
 | [],true,h=>by simp[wE,Ha]at h
 | [],false,h=>by simpa[wE]using h
 |c::a,true,h=>by simp only[sa,wE,rG]at h;exact BI b a _ h.2
 |c::a,false,h=>
 by
  simp only[sa,wE]at h;split at h;·exact BI b a _ h
  ·rw[rG]at h;exact BI b a _ h.2
def G8:∀(n:acM),46∈n->∃a b,n=a++46::b/\46∉b
 | [],h=>bX
 |c::n,h=>
 by
  by_cases d:46∈n;·obtain⟨a,b,rfl,hb⟩:=G8 n d;exact⟨c::a,b,rfl,hb⟩
  ·rcases sg.1 h with rfl|h;·exact⟨[],n,rfl,d⟩
   ·exact absurd h d
def QJ{n:acM}(h:vQ n=true):vv (sE n) (xk n)=some n:=by
 have g:=h;unfold vQ at g;simp only[rG,rQ]at g;obtain⟨k,hq⟩:=g;unfold vv;by_cases hd:46∈n
 ·obtain⟨a,b,rfl,hb⟩:=G8 n hd;obtain⟨d,e⟩:=EW a b hb;have i:=BI b a true hq;rw[BH b hb]at i;have j:a≠ []:=by rintro rfl;simp[wE,Ha]at hq
  have hsb:wa b=true:=by unfold wa;simp only[i,zJ,rQ];simp at k;omega
  have:yw a b=some (a++46::b):=by unfold yw;rw[ru hb,rv hsb,ru j]
  rw[d,e,this];simp only[h,uw]
 ·obtain⟨d,e⟩:=BZ n hd;rw[BH n hd]at hq;have hsb:wa n=true:=jf;have:yw [] n=some n:=kf;rw[d,e,this];simp only[h,uw]
def join_self{ar n:acM}(h:vQ n=true)(a:ar=[]\/sE n≠ []):vv ar n=some n:=by
 have b:=h;unfold vQ at b;simp only[rG,rQ]at b;obtain⟨g,hq⟩:=b;unfold vv;by_cases hd:46∈n
 ·have:yw ar n=some n:=by unfold yw;rw[rv hd]
  rw[this];simp only[h,uw]
 ·obtain⟨d,e⟩:=BZ n hd;rw[d]at a;rw[BH n hd]at hq;have hsb:wa n=true:=jf;have a:ar=[]:=a.resolve_right bi;subst a;have:yw [] n=some n:=kf;rw[this];simp only[h,uw]
def GQ{full:acM}:∀(b:List Hd)(i k:Nat)(h:Hd),b[k]? =some h->sf h.1=true->h.2=full->(∀j a,j<k->b[j]? =some a->¬(sf a.1=true/\a.2=full))->yS full i b=((i+k:Nat):Int)
 | [],i,k,h,hk,_,_,_=>by simp at hk
 |g::b,i,k,h,hk,d,e,l=>
 by
  unfold yS;cases k with
  |zero=>simp at hk;subst hk;rw[rv (by simp[d,e])];rfl
  |succ k=>have:=l 0 g V rfl;rw[ru fg,GQ b (i+1) k h jx d e (fun j a n m=>l (j+1) a V (by simpa using m))];omega
def Ff{full:acM}:∀(b:List Hd)(i:Nat),(∀a∈b,¬(sf a.1=true/\a.2=full))->yS full i b= -1
 | [],i,_=>rfl
 |g::b,i,d=>by unfold yS;rw[ru (by simpa using d g bi),Ff b (i+1) (fun a e=>d a (by simp[e]))]
def Bo(k:Int)(a:1<=k)(b:k<=14)(d:k≠13):(wg (tu k):Int)=k:=by rcases(show k=1\/k=2\/k=3\/k=4\/k=5\/k=6\/k=7\/k=8\/k=9\/k=10\/k=11\/k=12\/k=14 from V)with rfl|rfl|rfl|rfl|rfl|rfl|rfl|rfl|rfl|rfl|rfl|rfl|rfl<;>decide+kernel
def tH(c e:Int):sq false c e=e:=by simp[sq]
def Su{S:List Nd}{x:Nd}(h:uZ S x=true)(p:x.kind<=8):1<=x.kind/\x={Cn with kind:=x.kind}:=by unfold uZ at h;simp only[rG,rQ]at h;obtain⟨⟨a,_⟩,hb,_⟩:=h;refine⟨a,?_⟩;have j:¬x.kind=9:=V;have b:¬x.kind=10:=V;have i:¬x.kind=14:=V;have d:¬x.kind=11:=V;have e:¬x.kind=12:=V;have g:¬x.kind=13:=V;obtain⟨k,n,al,o,t,q,m,v,r,l⟩:=x;simp only at*;unfold Ce xX sf at hb;simp[j,b,d,e,g,i]at hb;simp_all [Cn]
def GB{S:List Nd}{x:Nd}(h:uZ S x=true)(hk:x.kind=13):B9 S x.rR=true/\x={Cn with kind:=13,rR:=x.rR}:=bI
def P7{S:List Nd}{x:Nd}(h:uZ S x=true)(a:x.kind=11\/x.kind=12):x={Cn with kind:=x.kind,items:=x.items}:=by unfold uZ at h;simp only[rG,rQ]at h;obtain⟨_,hb,_,g⟩:=h;obtain⟨k,n,al,e,l,i,d,m,j,b⟩:=x;simp only at a;rcases a with rfl|rfl;all_goals unfold Ce xX sf at hb;simp at hb;simp_all [Cn]
structure Xk(x:Nd):Prop where
 name:vQ x.name=true
 kind:wg x.name=0
 many:x.aliases.length<=40
 alias:∀a∈x.aliases,vQ a=true
def zN{S:List Nd}{x:Nd}(h:uZ S x=true)(b:sf x.kind=true):Xk x:=by unfold uZ at h;simp only[rG]at h;obtain⟨_,_,a,_⟩:=h;unfold D8 Ie at a;simp[b]at a;exact⟨a.1,a.2.1,a.2.2.1,a.2.2.2⟩
def GA{S:List Nd}{x:Nd}(h:uZ S x=true)(hk:x.kind=14):(0<=x.size/\x.size<=1000)/\x={Cn with kind:=14,name:=x.name,aliases:=x.aliases,size:=x.size}:=bI
def Iz{S:List Nd}{x:Nd}(h:uZ S x=true)(hk:x.kind=10):II x=true/\x={Cn with kind:=10,name:=x.name,aliases:=x.aliases,symbols:=x.symbols,has:=x.has,sO:=x.sO}:=bI
def Cx{S:List Nd}{x:Nd}(h:uZ S x=true)(hk:x.kind=9):yo x.fields=true/\x={Cn with kind:=9,name:=x.name,aliases:=x.aliases,fields:=x.fields}:=bI
structure KZ(S:List Nd):Prop where
 node:∀x∈S,uZ S x=true
 nd:∀(i j:Nat)(x y:Nd),S[i]? =some x->S[j]? =some y->sf x.kind=true->sf y.kind=true->x.name=y.name->i=j
 le:S.length<=200
structure Met(S:List Nd)(a:Nat)(m:List Bool):Prop where
 len:m.length=S.length
 iff:∀(i:Nat)(x:Nd),S[i]? =some x->sf x.kind=true->(m[i]? =some true↔i<a)
def sW(S:List Nd)(a:Nat):List Hd:=(S.take a).map sQ
def Tc{S:List Nd}{a i:Nat}{x:Nd}(h:S[i]? =some x)(b:i<a):(sW S a)[i]? =some (sQ x):=by unfold sW;rw[tz,xP,rv b,h];rfl
def OV{S:List Nd}{a i:Nat}{h:Hd}(b:(sW S a)[i]? =some h):i<a/\∃x,S[i]? =some x/\h=sQ x:=by
 unfold sW at b;rw[tz,xP]at b;by_cases d:i<a
 ·rw[rv d]at b;cases e:S[i]? with
  |none=>rw[e]at b;cases b
  |some x=>rw[e]at b;exact⟨d,x,rfl,by injection b with b;exact b.symm⟩
 ·rw[ru d]at b;cases b
def SV{S:List Nd}(ok:KZ S){k a:Nat}{x:Nd}(d:S[k]? =some x)(b:sf x.kind=true)(i:k<a):zH (sW S a) x.name=k:=by unfold zH;rw[GQ (full:=x.name) (sW S a) 0 k (sQ x) (Tc d i) b rfl,sY];rintro j m n h ⟨e,g⟩;obtain⟨_,y,l,rfl⟩:=OV h;have:=ok.nd j k y x l d e b g;omega
def Qm{S:List Nd}(ok:KZ S){k a:Nat}{x:Nd}(j:S[k]? =some x)(h:sf x.kind=true)(o:a<=k):zH (sW S a) x.name= -1:=by unfold zH;refine Ff _ _ ?_;rintro m e ⟨b,d⟩;obtain⟨i,g⟩:=yO e;obtain⟨n,y,l,rfl⟩:=OV g;have:=ok.nd i k y x l j b h d;omega
def KX(b:Nat->Sh->J×Sh):Prop:=∀a st,(b a st).2.2=false->st.2=false
def Hx{b:Nat->Sh->J×Sh}(h:KX b):∀(l:List Int)(st:Sh),(BY b l st).2.2=false->st.2=false
 | [],st,a=>a
 |k::r,st,a=>h _ _ (Hx h r _ a)
def ET{b:Nat->Sh->J×Sh}(h:KX b):∀(l:List Fd)(st:Sh),(v7 b l st).2.2=false->st.2=false
 | [],st,a=>a
 |f::r,st,a=>h _ _ (ET h r _ a)
def Mh{b:Nat->Sh->J×Sh}(h:KX b)(x:Nd)(st:Sh)(a:(Pv b x st).2.2=false):st.2=false:=by
 unfold Pv at a;split at a;·exact ET h _ _ a
 ·split at a<;>exact a
def CM(S:List Nd):∀(f:Nat)(ar:acM),KX (x8 S f ar):=by
 intro f;induction f with
 |zero=>intro ar a st h;exact h
 |succ f b=>
  intro ar a st h;unfold x8 at h;split at h;·exact h
  ·rename_i x d;split at h;·exact h
   ·split at h
    ·split at h;·simp at h;exact h.1
     ·have:=Mh (b _) x _ h;simp at this;exact this.1
    ·split at h;·exact Hx (b _) _ _ h
     ·exact b _ _ _ h
def Iv(S:List Nd)(d:Nat->Sh->J×Sh)(ar:acM)(k:Int)(a b:Nat):Prop:=a<=b/\(0<=k/\k<(b:Int))/\∀m,Met S a m->(d k.toNat (m,false)).2.2=false->Met S b (d k.toNat (m,false)).2.1/\∀F,SizeOf.sizeOf (d k.toNat (m,false)).1<F->tN F (d k.toNat (m,false)).1 ar (sW S a) 0=(k,(S.take b).drop a,0)
inductive Cw(S:List Nd)(tr:Nat->Sh->J×Sh)(ar:acM):List Int->Nat->Nat->Prop
 |nil (nx:Nat):Cw S tr ar [] nx nx
 |cons {k:Int} {ks:List Int} {nx RJ R:Nat} (h:Iv S tr ar k nx RJ) (hr:Cw S tr ar ks RJ R):Cw S tr ar (k::ks) nx R
section
variable{x:J}{l:List J}(F:Nat){S:List Nd}{e:Nat}{d:List Int}{k:Int}{a:Nat}
def Cw.le{b:Nat->Sh->J×Sh}{ar:acM}{ks:List Int}{a R:Nat}(h:Cw S b ar ks a R):a<=R:=by
 induction h with
 |nil=>exact iW
 |cons h _ ih=>exact sG h.1 ih
def L6(st:Sh)(h:st.2=false):st=(st.1,false):=by rw[<-h]
def Gw(t ar:acM)(a:List Hd):tN (F+1) (jT t) ar a 0=zA t ar a 0:=rfl
def EE(S:List Nd){a b c:Nat}(d:a<=b)(e:b<=c):(S.take b).drop a++(S.take c).drop b=(S.take c).drop a:=by rw[<-Ib (b-a) ((S.take c).drop a),AN,show a+(b-a)=b from V];congr 1;rw[<-List.drop_take,List.take_take];congr 1;congr 1;omega
def DX(S:List Nd){a b:Nat}(d:a<=b):sW S a++((S.take b).drop a).map sQ=sW S b:=by unfold sW;rw[<-wO];congr 1;have:=EE S (rO a) d;exact fg
def DY(S:List Nd){a:Nat}(h:a<=S.length):(sW S a).length=a:=by unfold sW;simp;omega
def G0(d:0<=k)(h:k<(a:Int)):DW (sW S a) k=xU S k:=by
 unfold DW xU;cases b:S[k.toNat]? with
 |none=>
  have:(sW S a)[k.toNat]? =none:=by rw[List.getElem?_eq_none_iff]at b|-;unfold sW;simp;omega
  rw[this]
 |some x=>rw[Tc b V];rfl
def VU(ok:KZ S){f F:Nat}{ar:acM}{k:Int}{d:Nat}(z:0<F)(p:0<=k)(r:k<(d:Int))(hn:(match S[k.toNat]? with|some y=>sf y.kind|none=>false)=true)(i:F=f+1):Iv S (x8 S F ar) ar k d d:=by
 subst i;cases b:S[k.toNat]? with
 |none=>rw[b]at hn;cases hn
 |some x=>
  rw[b]at hn;simp only at hn;refine⟨rN _,⟨p,r⟩,fun m l g=> ?_⟩;have v:=(l.iff k.toNat x b hn).2 V;have t:¬x.kind<=8:=fx;have e:x8 S (f+1) ar k.toNat (m,false)=(jT x.name,(m,(tq ar&& !tq (sE x.name)))):=by unfold x8;simp only[b,ru t,rv hn,rv v,tU]
  rw[e]at g|-;refine⟨l,fun F i=> ?_⟩;obtain⟨F,rfl⟩:∃n,F=n+1:=⟨F-1,V⟩;have j:=zN (ok.node x (rL b)) hn;rw[Gw];unfold zA;rw[ru (by rw[j.kind];omega),join_self j.name (by
   simp only[Bv,Bool.not_eq_eq_eq_not,xw]at g;rcases g with h|h;·left;unfold tq at h;simpa using h
   ·right;unfold tq at h;simpa using h)]
  have q:=SV ok b hn (a:=d) V;simp only[FV,Option.getD_some,Dr,tl,tH,q];have:decide (((k.toNat:Nat):Int)<0)=false:=rF V;rw[this,tH];have o:(S.take d).drop d=[]:=iD;rw[o];congr 1;omega
def Tq(ok:KZ S){f F:Nat}{ar:acM}(d:F=f+1)(wk:Nat->Option Nat)(hwk:∀a b,wk a=some b->Iv S (x8 S F ar) ar (a:Int) a b):∀(ks:List Int)(nx R:Nat),zm S wk ks nx=some R->Cw S (x8 S F ar) ar ks nx R:=by
 intro ks;induction ks with
 |nil=>exact jD
 |cons k ks ih=>
  intro nx R h;simp only[zm]at h;split at h;·exact fw
  ·rename_i hk;split at h;·cases h
   ·rename_i i;split at h
    ·rename_i y g;split at h;·rename_i e;exact .cons (VU ok (f:=f) V V V (by rw[g];exact e) d) (ih _ _ h)
     ·cases h
    ·simp at h
def Mk(h:x∈l):SizeOf.sizeOf x<SizeOf.sizeOf l:=vd h
def Qc(g:0<=k/\k<(e:Int))(hb:∀a∈d,0<=a/\a<(e:Int))(i:xU S k≠13)(j:d.any (Cf S (xU S k) k)=false):AA (sW S e) d k=true:=by
 unfold AA;rw[G0 g.1 g.2];rw[rF i,xw,rU,wV];rw[<-j];rw[zR,List.any_eq_true,List.any_eq_true];constructor;·rintro⟨a,b,h⟩;exact⟨a,b,by unfold Cf;rw[G0 (hb a b).1 (hb a b).2]at h;exact h⟩
 ·rintro⟨a,b,h⟩;exact⟨a,b,by unfold Cf at h;rw[G0 (hb a b).1 (hb a b).2];exact h⟩
def On{b:Nat->Sh->J×Sh}{ar:acM}(K:KX b)(all:List Int)(a F:Nat):∀(ks:List Int)(d R j:Nat)(m:List Bool),Cw S b ar ks d R->a<d->Met S d m->(BY b ks (m,false)).2.2=false->SizeOf.sizeOf (BY b ks (m,false)).1<F+1->all.drop j=ks->(∀e∈all.take j,0<=e/\e<(d:Int))->AY S all j ks=true->Met S R (BY b ks (m,false)).2.1/\Li (fun j=>tN F j ar) (sW S (a+1)) (BY b ks (m,false)).1 (all.take j) ((S.take d).drop (a+1)) 0=(((sW S (a+1)).length:Int)-1,all,(S.take R).drop (a+1),0):=by
 intro ks;induction ks with
 |nil=>intro d R j m p B r l g hd n i;cases p;refine⟨r,?_⟩;have:all.take j=all:=jR;simp only[BY,Li,this]
 |cons k ks N=>
  intro d R j m p B r l g hd n i;cases p with
  |cons q H=>
   rename_i o;obtain⟨I,v,q⟩:=q;have y:=Hx K ks _ l;obtain⟨L,hb⟩:=q m r y;have hb:=hb F (by simp only[BY,List.cons.sizeOf_spec]at g;omega);have D:=L6 _ y;have M:(BY b (k::ks) (m,false))=((b k.toNat (m,false)).1::(BY b ks ((b k.toNat (m,false)).2.1,false)).1,(BY b ks ((b k.toNat (m,false)).2.1,false)).2):=by show((b k.toNat (m,false)).1::(BY b ks (b k.toNat (m,false)).2).1,(BY b ks (b k.toNat (m,false)).2).2)=_;rw[D]
   rw[M]at l g|-;simp only at l g|-;have Cl:j<all.length:=ge;have t:=rH Cl;rw[hd]at t;injection t with hk1 hk2;have x:all.take (j+1)=all.take j++[k]:=jm;simp only[AY,rG,wV,Aq]at i;have C:AA (sW S o) (all.take j) k=true:=Qc v (fun e h=>⟨(n e h).1,by have:=(n e h).2;omega⟩) i.1.1 i.1.2;have E:sW S (a+1)++((S.take d).drop (a+1)).map sQ=sW S d:=DX S V;have G:sW S (a+1)++((S.take o).drop (a+1)).map sQ=sW S o:=DX S V;obtain⟨z,A⟩:=N o R (j+1) _ H V L l (by simp only[List.cons.sizeOf_spec]at g;omega) hk2.symm (by
    intro e h;rw[x]at h;rcases sl.1 h with h|h;·have:=n e h;omega
    ·simp at h;subst h;exact v) i.2
   refine⟨z,?_⟩;unfold Li;rw[E,hb];simp only[uw];rw[EE S V I,G,C,tl,tH,<-x];exact A
def HI(ok:KZ S){d:Nat->Sh->J×Sh}{ar:acM}(D:KX d){a R F:Nat}{x:Nd}{m:List Bool}(hx:S[a]? =some x)(g:x.kind=13)(o:Cw S d ar x.rR (a+1) R)(E:Met S (a+1) m)(H:(BY d x.rR (m,false)).2.2=false)(r:SizeOf.sizeOf (jL (BY d x.rR (m,false)).1)<F):Met S R (BY d x.rR (m,false)).2.1/\tN F (jL (BY d x.rR (m,false)).1) ar (sW S a) 0=((a:Int),(S.take R).drop a,0):=by
 have l:a<S.length:=(rK.1 hx).1;obtain⟨e,t⟩:=GB (ok.node x (rL hx)) g;obtain⟨F,rfl⟩:∃v,F=v+1:=⟨F-1,V⟩;unfold B9 at e;simp only[rG,rQ]at e;have C:(S.take (a+1)).drop (a+1)=[]:=iD;have q:∀(ks:List Int)(st:Sh),(BY d ks st).1.length=ks.length:=by
  intro ks;induction ks with
  |nil=>intro st;rfl
  |cons k ks I=>intro st;simp only[BY,rM,I]
 obtain⟨y,i⟩:=On D x.rR a F x.rR (a+1) R 0 m o V E H (by unfold jL at r;simp only[J.mk.sizeOf_spec]at r;omega) rfl bi e.2;refine⟨y,?_⟩;rw[List.take_zero,C]at i;have n:sW S (a+1)=sW S a++[(13,[])]:=by
  have:=DX S (a:=a) (b:=a+1) V;rw[<-this];congr 1;have:(S.take (a+1)).drop a=[x]:=by rw[yH,hx];simp[List.drop_append,Nat.min_eq_left (Gk l)]
  rw[this];simp[sQ,g];rw[t];rfl
 show AQ (fun j=>tN F j ar) (BY d x.rR (m,false)).1 (sW S a) 0=_;have p:=DY S (Gk l);have L:=ok.le;have z:decide ((BY d x.rR (m,false)).1.length<1)=false:=rF (by rw[q];omega);have A:decide (10<(BY d x.rR (m,false)).1.length)=false:=rF (by rw[q];omega);have B:decide (200<=(sW S a).length)=false:=rF (by rw[p];omega);unfold AQ;rw[z,A,B,zK,tH,tH,rv rfl,<-n,i];simp only;rw[n];have K:=o.le;have G:(S.take R).drop a=x::(S.take R).drop (a+1):=eW;rw[G,<-t];simp[p]
end
