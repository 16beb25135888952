import Derived.Test.YtccjlcadbpinfaaGreatDoorX38
import Derived.Test.YtccjlcadbpinfaaGreatDoorX36
import Derived.Test.YtccjlcadbpinfaaGreatDoorX41
import Derived.Defers
set_option linter.all false
namespace Go.Proofs.YtccjlcadbpinfaaGreatDoor.Tp
open Num Mem Can
mutual
def zQ:J->acM
 | .mk k i t l ks=>if k=1 then [110,117,108,108]else if k=2 then(if i=1 then [116,114,117,101]else [102,97,108,115,101])else if k=3 then zO i else if k=4 then sU t else if k=5 then 91::((Av l).drop 1++[93])else 123::((zD l ks).drop 1++[125])
def Av:List J->acM
 | []=>[]
 |x::r=>44::(zQ x++Av r)
def zD:List J->List acM->acM
 | [],_=>[]
 |_::_,[]=>[]
 |x::r,k::ks=>44::(sU k++58::(zQ x++zD r ks))
end
mutual
def Pw:J->Nat
 | .mk _ _ _ l _=>3+KJ l
def KJ:List J->Nat
 | []=>0
 |x::r=>1+Pw x+KJ r
end
def xG{st:St}{s:acM}(h:(xq st s).2=false):st.2=false/\(xq st s).1=st.1++s/\(xq st s).1.length<=20000:=by
 unfold xq at h|-;split;·rename_i a;rw[rv a]at h;cases h
 ·rename_i a;simp only[wN,rQ,NV,By]at a;exact⟨a.1,rfl,dF⟩
def Lq(i:Nat)(l:acM):acM:=if 0<i then l else l.drop 1
mutual
def E0:∀(j:J)(st:St),(ya j st).2=false->st.2=false/\(ya j st).1=st.1++zQ j/\(ya j st).1.length<=20000
 | .mk k i t l ks,st,h=>
 by
  unfold ya at h|-;unfold zQ;by_cases b:k=1;·simp only[rv b]at h|-;exact xG h
  simp only[ru b]at h|-;by_cases d:k=2;·simp only[rv d]at h|-;exact xG h
  simp only[ru d]at h|-;by_cases e:k=3;·simp only[rv e]at h|-;exact xG h
  simp only[ru e]at h|-;by_cases g:k=4;·simp only[rv g]at h|-;exact xG h
  simp only[ru g]at h|-;by_cases m:k=5;·simp only[rv m]at h|-;obtain⟨a,h2,h3⟩:=xG h;obtain⟨h4,h5⟩:=Jg l 0 _ a;exact jo
  ·simp only[ru m]at h|-;obtain⟨a,h2,h3⟩:=xG h;obtain⟨h4,h5⟩:=Jh l ks 0 _ a;exact jo
def Jg:∀(l:List J)(i:Nat)(st:St),(Dp l i st).2=false->st.2=false/\(Dp l i st).1=st.1++Lq i (Av l)
 | [],i,st,h=>⟨h,by simp[Dp,Av,Lq]⟩
 |x::r,i,st,h=>
 by
  unfold Dp at h|-;obtain⟨d,e⟩:=Jg r (i+1) _ h;obtain⟨a,g,_⟩:=E0 x _ d;rw[e,g];unfold Ih at a|-;rw[show Av (x::r)=44::(zQ x++Av r)by simp only[Av]];unfold Lq;by_cases b:0<i;·simp only[rv b]at a|-;obtain⟨j,k,_⟩:=xG a;exact⟨j,by rw[k];simp⟩
  ·simp only[ru b]at a|-;exact⟨a,bi⟩
def Jh:∀(l:List J)(ks:List acM)(i:Nat)(st:St),(AL l ks i st).2=false->st.2=false/\(AL l ks i st).1=st.1++Lq i (zD l ks)
 | [],ks,i,st,h=>⟨by simpa[AL]using h,by simp[AL,zD,Lq]⟩
 |_::_,[],i,st,h=>⟨by simpa[AL]using h,by simp[AL,zD,Lq]⟩
 |x::r,k::ks,i,st,h=>
 by
  unfold AL at h|-;obtain⟨d,e⟩:=Jh r ks (i+1) _ h;obtain⟨g,j,_⟩:=E0 x _ d;obtain⟨a,o,_⟩:=xG g;rw[e,j,o];unfold Ih at a|-;rw[show zD (x::r) (k::ks)=44::(sU k++58::(zQ x++zD r ks))by simp only[zD]];unfold Lq;by_cases b:0<i;·simp only[rv b]at a|-;obtain⟨m,n,_⟩:=xG a;exact⟨m,by rw[n];simp⟩
  ·simp only[ru b]at a|-;exact⟨a,bi⟩
end
def Hl{j:J}{own:acM}(h:yX j=.ok own):tT j 0=true/\own=zQ j/\own.length<=20000:=by
 unfold yX at h;split at h
 ·rename_i d;split at h;·cases h
  ·rename_i a;simp only[By]at a;injection h with h;obtain⟨_,h3,b⟩:=E0 j _ a;rw[<-h];exact⟨d,ke,b⟩
 ·cases h
def TI{ks:List acM}(h:(Lib.compact (x9 ks)).length=ks.length):ks.Nodup:=by
 have n:(x9 ks).Perm ks:=List.mergeSort_perm _ _;have k:(x9 ks).Pairwise (fun x y=>x<=y):=by have:=List.pairwise_mergeSort (le:=fun x y:acM=>decide (x<=y)) (fun a b c g d=>by simp only[rQ]at*;exact List.le_trans g d) (fun a b=>by simp only[wN,rQ];exact List.le_total a b) ks;exact this.imp (fun h=>dC)
 rw[<-n.nodup_iff];rw[<-n.length_eq]at h;generalize x9 ks=l at*;have q:∀j,j<l.length->Lib.keeps l.toArray j=true:=by unfold Lib.compact Lib.compactUpTo at h;rw[sD]at h;have d:(List.range l.length).filter (Lib.keeps l.toArray)=List.range l.length:=List.Sublist.eq_of_length List.filter_sublist (by rw[h,List.length_range]);intro j hj;have h3:=List.filter_eq_self.1 d;exact h3 j (List.mem_range.2 hj)
 rw[List.nodup_iff_pairwise_ne,zu];intro i j p hj r o;have e:=q j hj;unfold Lib.keeps at e;simp only[rQ]at e;rcases e with rfl|e;·omega
 ·apply e;rw[zu]at k;have g:l[j-1]<=l[j]:=k (j-1) j V hj V;have d:l[i]<=l[j-1]:=by
   rcases sX i (j-1)with m|m;·exact k i (j-1) p V m
   ·have:i=j-1:=V;subst this;exact List.le_refl _
  rw[o]at d;have h3:=List.le_antisymm d g;rw[getElem!_pos l.toArray j fu,getElem!_pos l.toArray (j-1) (by simp;omega)];exact ke
def Gn(xs:acM)(j:J)(d:Nat):Prop:=∀(a:Nat)(r:acM),xs.drop a=zQ j++r->DK r->∃w:Wd,se xs a=.ok w/\w.kind≠4/\w.kind≠2/\∀f,Pw j<=f->vB xs f w d=some (.ok (j,a+(zQ j).length))
def Ue(l:List J)(r:acM):DK (Av l++93::r):=by
 intro c s h;cases l with
 |nil=>exact mD
 |cons x y=>unfold Av at h;exact mD
def Yp(l:List J)(ks:List acM)(r:acM):DK (zD l ks++125::r):=by
 intro c s h;cases l with
 |nil=>unfold zD at h;exact mD
 |cons x y=>
  cases ks with
  |nil=>unfold zD at h;exact mD
  |cons k ks=>unfold zD at h;exact mD
def Pa{xs:acM}{d:Nat}:∀(l:List J),(∀x∈l,Gn xs x d)->∀(x:J),Gn xs x d->∀(e:List J)(a:Nat)(r:acM),xs.drop a=zQ x++(Av l++93::r)->∃w,se xs a=.ok w/\w.kind≠4/\w.kind≠2/\∀f,KJ (x::l)<=f->AT xs f w d e=some (.ok (.mk 5 0 [] (e++x::l) [],a+(zQ x++Av l).length+1))
 | [],_,x,n,e,a,r,h=>by obtain⟨w,m,j,i,k⟩:=n a _ h (Ue [] r);refine⟨w,m,j,i,fun f hf=> ?_⟩;obtain⟨f,rfl⟩:∃g,f=g+1:=⟨f-1,eP⟩;have b:=Af h;simp only[Av,sd]at b;rw[AT,k f eP];simp only;rw[xt 3 b bC bD];simp[Av]
 |y::l,o,x,n,e,a,r,h=>by obtain⟨w,m,j,i,k⟩:=n a _ h (Ue (y::l) r);refine⟨w,m,j,i,fun f hf=> ?_⟩;obtain⟨f,rfl⟩:∃g,f=g+1:=⟨f-1,eP⟩;have b:=Af h;simp only[Av,sa,rX]at b;have p:=wT b;obtain⟨A,t,_,_,q⟩:=Pa l (fun z v=>o z (uz _ v)) y (o y (tP ..)) (e++[x]) _ r p.2.1;rw[AT,k f eP];simp only;rw[xt 5 b bC bD];simp only[show(1+((5:Nat):Int)=6)from bD,uw];rw[t];simp only;rw[q f (by simp only[KJ]at hf|-;omega)];simp only[Av,rX,sa,sd,rC,rM];simp only[show¬(6:Int)=4 from bD,yW];congr 3;omega
def Ly{xs:acM}{d:Nat}:∀(l:List J)(ks:List acM),ks.length=l.length->(∀x∈l,Gn xs x d)->(∀k∈ks,yB k=true)->∀(x:J)(k:acM),Gn xs x d->yB k=true->∀(i:List J)(b:List acM)(a:Nat)(r:acM),(b++k::ks).Nodup->xs.drop a=sU k++58::(zQ x++(zD l ks++125::r))->∃w,se xs a=.ok w/\w.kind=10/\∀f,KJ (x::l)<=f->yp xs f w d i b=some (.ok (.mk 6 0 [] (i++x::l) (b++k::ks),a+(sU k++58::(zQ x++zD l ks)).length+1))
 |l,ks,m,t,q,x,k,L,B,i,b,a,r,n,h=>
 by
  have H:=Je h B;refine⟨_,H,rfl,fun f hf=> ?_⟩;obtain⟨f,rfl⟩:∃A,f=A+1:=⟨f-1,eP⟩;have p:=Af h;have v:=wT p;obtain⟨w,I,_,_,F⟩:=L _ _ v.2.1 (Yp l ks r);have g:=Af v.2.1;have C:b.contains k=false:=by
   rw[List.nodup_append]at n;have:=n.2.2;cases E:b.contains k with
   |false=>rfl
   |true=>exact absurd rfl (this k (yf.1 E) k (tP ..))
  rw[yp];simp only[ne_eq,not_true,yW,C];rw[xt 4 p bC bD];simp only[show(1+((4:Nat):Int))=5 from bD,not_true,yW];rw[I];simp only;rw[F f eP];simp only;cases l with
  |nil=>obtain rfl:ks=[]:=rI m;simp only[zD,sd]at g;rw[xt 1 g bC bD];simp only[show(1+((1:Nat):Int))=2 from bD,uw,zD,sw,rC,rM];simp only[MK,yW];congr 3;omega
  |cons y l=>
   cases ks with
   |nil=>simp at m
   |cons j ks=>simp only[zD,sa,rX]at g;have D:=wT g;have e:(b++[k])++j::ks=b++k::j::ks:=bi;obtain⟨N,K,M,G⟩:=Ly l ks (by simpa using m) (fun z o=>t z (uz _ o)) (fun z o=>q z (uz _ o)) y j (t y (tP ..)) (q j (tP ..)) (i++[x]) (b++[k]) _ r (by rw[e];exact n) D.2.1;rw[xt 5 g bC bD];simp only[show(1+((5:Nat):Int)=6)from bD,uw];rw[K];simp only;rw[G f (by simp only[KJ]at hf|-;omega)];simp only[zD,rX,sa,sd,rC,rM];simp only[show¬(6:Int)=2 from bD,MK,yW];congr 3;omega
def WC{xs:acM}:∀(N:Nat)(j:J),SizeOf.sizeOf j<=N->xC j->∀d,d<=32->tT j d=true->Gn xs j d:=by
 intro N;induction N with
 |zero=>exact eX
 |succ N I=>
  intro j hj a1 d a3 y;cases a1 with
  |mk a5 a4 S U a2 D=>
   rename_i k i t l ks;have F:∀x∈l,SizeOf.sizeOf x<=N:=by intro x hx;exact jW
   unfold tT at y;rw[rG,rG,rG]at y;obtain⟨⟨⟨hb,b⟩,C⟩,G⟩:=y;intro a r h o;unfold Ab at hb;unfold zQ at h|-;unfold BR at b;by_cases K:k=1;·subst K;simp at hb b h|-;obtain⟨⟨rfl,rfl⟩,rfl⟩:=hb;subst b;have hw:=EY (s:=[110,117,108,108]) 8 0 h o (.inr (.inr ⟨rfl,rfl,rfl⟩));exact mE
   simp only[ru K]at hb h|-;by_cases L:k=2
   ·subst L;simp at hb b;obtain⟨⟨X,rfl⟩,rfl⟩:=hb;subst b;rcases X with rfl|rfl;·simp at h|-;have hw:=EY (s:=[102,97,108,115,101]) 7 0 h o (.inr (.inl ⟨rfl,rfl,rfl⟩));exact mE
    ·simp at h|-;have hw:=EY (s:=[116,114,117,101]) 7 1 h o (.inl ⟨rfl,rfl,rfl⟩);exact mE
   simp only[ru L]at hb h|-;by_cases M:k=3;·subst M;simp at hb b h|-;obtain⟨rfl,rfl⟩:=hb;subst b;have hw:=Uj h o S U;exact mE
   simp only[ru M]at hb h|-;by_cases O:k=4;·subst O;simp at hb b h|-;obtain⟨⟨rfl,rfl⟩,a0⟩:=hb;subst b;have hw:=Je h a0;exact mE
   simp only[ru O]at hb h|-;rw[BV]at G;have H:∀x∈l,tT x (d+1)=true:=by simpa using G
   by_cases Q:k=5
   ·subst Q;simp at hb b C;obtain⟨rfl,rfl⟩:=hb;subst b;simp only[uw]at h|-;rw[sa]at h;have g:∀x∈l,Gn xs x (d+1):=fun x hx=>I x (F x hx) (D x hx) (d+1) V (H x hx)
    have hw:=xt 2 h bC bD;have m:=wT h;refine⟨_,hw,bi,bi,fun f hf=> ?_⟩;obtain⟨f,rfl⟩:∃f',f=f'+1+1:=⟨f-2,du⟩;have q:¬d=32:=V;have p:vB xs (f+1+1) ⟨1+((2:Nat):Int),0,[],a,a+1⟩ d=Dn xs (f+1) (a+1) (d+1):=by rw[vB];simp[q]
    rw[p,Dn];cases l with
    |nil=>have e:=m.2.1;simp only[Av,List.drop_nil,sd,sa]at e;rw[xt 3 e bC bD];simp[Av]
    |cons x l=>have e:=m.2.1;simp only[Av,zx,yM,rX,sa,sd]at e;obtain⟨w,B,W,_,A⟩:=Pa l (fun z n=>g z (uz _ n)) x (g x (tP ..)) [] _ r e;rw[B];simp only[ru W];rw[A f du];simp only[Av,zx,yM,sd,rC,rM,sc];congr 3;omega
   ·simp only[ru Q]at h|-;have R:k=6:=by apply DG;intro R;rw[ru (by rintro(h|h)<;>contradiction)]at hb;cases hb
    subst R;simp at hb b C;obtain⟨rfl,rfl⟩:=hb;obtain⟨⟨v,Y⟩,E⟩:=b;have Z:=TI Y;rw[sa]at h;have g:∀x∈l,Gn xs x (d+1):=fun x hx=>I x (F x hx) (D x hx) (d+1) V (H x hx)
    have hw:=xt 0 h bC bD;have m:=wT h;refine⟨_,hw,bi,bi,fun f hf=> ?_⟩;obtain⟨f,rfl⟩:∃f',f=f'+1+1:=⟨f-2,du⟩;have q:¬d=32:=V;have p:vB xs (f+1+1) ⟨1+((0:Nat):Int),0,[],a,a+1⟩ d=Io xs (f+1) (a+1) (d+1):=by rw[vB];simp[q]
    rw[p,Io];cases l with
    |nil=>obtain rfl:ks=[]:=rI v;have e:=m.2.1;simp only[zD,List.drop_nil,sd,sa]at e;rw[xt 1 e bC bD];simp[zD]
    |cons x l=>
     cases ks with
     |nil=>simp at v
     |cons k ks=>have e:=m.2.1;simp only[zD,zx,yM,rX,sa,sd]at e;obtain⟨w,B,T,A⟩:=Ly l ks (by simpa using v) (fun z n=>g z (uz _ n)) (fun z n=>E z (uz _ n)) x k (g x (tP ..)) (E k (tP ..)) [] [] _ r (by simpa using Z) e;rw[B];simp only;rw[ru (by rw[T];decide),A f du];simp only[zD,zx,yM,sd,rC,rM,sc];congr 3;omega
end Go.Proofs.YtccjlcadbpinfaaGreatDoor.Tp
namespace Go.Proofs.YtccjlcadbpinfaaGreatDoor.Tp
open ChangeShapes WideShapes ChangeAt RowKit
open Num Mem Can
def Lb{S:List Nd}{e:Int}:∀n:Nat,P4 S e n=0->e=0
 |0,h=>h
 |n+1,h=>
 by
  refine Lb (S:=S) n ?_;unfold P4 at h;unfold sq at h;split at h;·omega
  ·exact h
def WE{t:acM}(h:t.length<=1000000):xC (jT t):=Db 4 0 t h V V
def Yy{l:List acM}(h:∀t∈l,t.length<=1000000):xC (Cm l):=Ei _ fun x b=>by obtain⟨t,a,rfl⟩:=sR.1 b;exact WE (h t a)
def E9(k:Int):(tu k).length<=1000000:=by
 unfold tu;split;·simp
 ·have:∀l∈ue,l.length<=1000000:=bD;rw[List.getD_eq_getElem?_getD];cases h:ue[k.toNat]? with
  |none=>simp
  |some l=>exact this l (rL h)
def xL{a:Type}{b:Bool}{x y:a}(h:y∈opt b x):y=x:=by
 unfold opt at h;split at h;·exact sH.1 h
 ·cases h
def FX{a d:Type}(b:Bool)(x:a)(y:d):(opt b x).length=(opt b y).length:=by unfold opt;split<;>rfl
def QO(l:acM):(xk l).length<=l.length:=by unfold xk;have a:=(List.takeWhile_sublist (p:=fun x:UInt8=>x !=46) (l:=l.reverse)).length_le;simp only[xu]at a|-;exact a
def CG{ks:List acM}:(∀k∈ks,k=vw\/k=tp\/k=tg\/k=sF\/k=uV\/k=ug\/k=ub\/k=xF\/k=uO\/k=wS)->∀k∈ks,k.length<=1000000:=fun h k a=>by rcases h k a with rfl|rfl|rfl|rfl|rfl|rfl|rfl|rfl|rfl|rfl<;>decide
structure GoS(S:List Nd):Prop where
 nd:∀x∈S,FL x
 sz:∀x∈S,x.kind=14->0<=x.size/\x.size<=1000
def UN{d:Nat->Sh->J×Sh}(h:∀a st,xC (d a st).1):∀(l:List Int)(st:Sh),∀x∈(BY d l st).1,xC x
 | [],_,x,b=>by cases b
 |k::r,st,x,b=>
 by
  simp only[BY]at b;rcases sg.1 b with rfl|b;·exact h _ _
  ·exact UN h r _ x b
def YA{g:Nat->Sh->J×Sh}(h:∀a st,xC (g a st).1)(f:Fd)(e:YG f)(st:Sh):xC (H7 g f st).1:=by
 unfold H7;refine DC _ _ (fun x d=> ?_) (CG fun k b=> ?_) ?_
 ·simp only[sl,sg,uA,Cp]at d;rcases d with((rfl|rfl)|d)|d;·exact WE e.name
  ·exact h _ _
  ·rw[xL d];exact Yy e.alias
  ·rw[xL d];exact e.sO
 ·simp only[sl,sg,uA,Cp]at b;rcases b with((rfl|rfl)|b)|b;·simp
  ·simp
  ·rw[xL b];simp
  ·rw[xL b];simp
 ·simp only[rC,rM,sc,FX _ tg (Cm f.aliases),FX _ sF f.sO]
def Pz{e:Nat->Sh->J×Sh}(h:∀a st,xC (e a st).1):∀(l:List Fd),(∀f∈l,YG f)->∀(st:Sh),∀x∈(v7 e l st).1,xC x
 | [],_,_,x,b=>by cases b
 |f::r,d,st,x,b=>
 by
  simp only[v7]at b;rcases sg.1 b with rfl|b;·exact YA h f (d f bi) st
  ·exact Pz h r (fun f g=>d f (by simp[g])) _ x b
def Z4{x:Nd}(d:FL x):(∀y∈Au x,xC y)/\(∀k∈BL x,k=vw\/k=tp\/k=tg\/k=sF\/k=uV\/k=ug\/k=ub\/k=xF\/k=uO\/k=wS)/\(BL x).length=(Au x).length:=by
 refine⟨fun y b=> ?_,fun k a=> ?_,?_⟩
 ·unfold Au at b;simp only[sl,sg,uA,Cp]at b;rcases b with(rfl|rfl|rfl)|b;·exact WE (E9 _)
  ·exact WE (by have:=QO x.name;have:=d.name;omega)
  ·exact WE (by have:=EX x.name;have:=d.name;omega)
  ·rw[xL b];exact Yy d.alias
 ·unfold BL at a;simp only[sl,sg,uA,Cp]at a;rcases a with(rfl|rfl|rfl)|a;·simp
  ·simp
  ·simp
  ·rw[xL a];simp
 ·unfold BL Au;simp only[rC,rM,sc,FX _ tg (Cm x.aliases)]
def YC{g:Nat->Sh->J×Sh}(h:∀a st,xC (g a st).1)(x:Nd)(d:FL x)(l:0<=x.size/\x.size<=1000\/x.kind=9\/x.kind=10)(st:Sh):xC (Pv g x st).1:=by
 obtain⟨e,h2,h3⟩:=Z4 d;unfold Pv;split
 ·refine DC _ _ (fun y b=> ?_) (CG fun k hk=> ?_) ?_
  ·rcases sl.1 b with b|b;·exact e y b
   ·rw[sH.1 b];exact Ei _ (Pz h _ d.fields _)
  ·exact ix
  ·exact kA
 ·split
  ·refine DC _ _ (fun y b=> ?_) (CG fun k hk=> ?_) ?_
   ·simp only[sl,sH]at b;rcases b with(b|rfl)|b;·exact e y b
    ·exact Yy d.symbols
    ·rw[xL b];exact WE d.sO
   ·simp only[sl,sH]at hk;rcases hk with(hk|rfl)|hk;·exact h2 k hk
    ·simp
    ·rw[xL hk];simp
   ·simp only[rC,rM,sc,h3,FX _ sF (jT x.sO)]
  ·rename_i j i;refine DC _ _ (fun y b=> ?_) (CG fun k hk=> ?_) ?_
   ·rcases sl.1 b with b|b;·exact e y b
    ·rw[sH.1 b];exact Db 3 _ [] bi V V
   ·exact ix
   ·exact kA
def UO{S:List Nd}(d:GoS S):∀(f:Nat)(ar:acM)(a:Nat)(st:Sh),xC (x8 S f ar a st).1
 |0,_,_,_=>Dc
 |f+1,ar,a,st=>
 by
  have e:=fun ar a st=>UO d f ar a st
  unfold x8;cases o:S[a]? with
  |none=>exact Dc
  |some x=>
   have l:=rL o;have i:=d.nd x l;simp only;split;·exact WE (E9 _)
   ·split
    ·rename_i b;split;·exact WE i.name
     ·refine YC (e _) x i ?_ _;have:=Xf b;by_cases h:x.kind=9;·exact .inr (.inl h)
      by_cases g:x.kind=10;·exact .inr (.inr g)
      have n:x.kind=14:=by unfold sf at b;simp[h,g]at b;exact b
      exact .inl (d.sz x l n)
    ·split;·exact Ei _ (UN (e ar) _ _)
     ·refine DC _ _ (fun y m=> ?_) (CG fun k j=> ?_) rfl
      ·simp only[sg,uA,Cp]at m;rcases m with rfl|rfl;·exact WE (E9 _)
       ·exact e _ _ _
      ·simp only[sg,uA,Cp]at j;rcases j with rfl|rfl;·simp
       ·split<;>simp
def XH{S:List Nd}(h:um S 0=true)(b:∀x∈S,FL x):GoS S:=⟨b,fun x e d=>by have a:=(C6 ((wi h).2 x e)).1;unfold kindOk at a;rw[ru V,ru V,rv d]at a;simp only[rG,rQ]at a;exact a⟩
def PA{S:List Nd}(a:∀x∈S,FL x):xC (uI S 0):=by
 unfold uI;split
 ·rename_i h;have b:um S 0=true:=by unfold zq at h;exact iN
  exact UO (XH b a) _ _ _ _
 ·exact Dc
