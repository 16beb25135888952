import Derived.Test.YtccjlcadbpinfaaGreatDoorX42
import Derived.Test.YtccjlcadbpinfaaGreatDoorX43
set_option linter.all false
namespace Go.Proofs.YtccjlcadbpinfaaGreatDoor.Tp
open ChangeShapes WideShapes ChangeAt RowKit
open Num Mem Can
def GO{M:Int}:∀(l:List J)(n:Int),n<=M->(∀x∈l,1+tR x<=M)->Ae l n<=M
 | [],n,h,_=>by simpa[Ae]using h
 |x::r,n,h,a=>by unfold Ae;exact GO r _ (by have:=a x bi;omega) (fun y b=>a y (by simp[b]))
def AB{M:Int}{j:J}(a:1<=M)(h:∀x∈j.items,1+tR x<=M):tR j<=M:=by
 cases j with
 |mk k i t l ks=>
  unfold tR;split;·exact GO l 1 a h
  ·omega
def Nl:∀(N:Nat)(j:J),SizeOf.sizeOf j<=N->∀d:Nat,d<=32->tT j d=true->tR j<=33-(d:Int):=by
 intro N;induction N with
 |zero=>exact eX
 |succ N g=>
  intro j hj d m h;cases j with
  |mk k i t l ks=>
   unfold tT at h;simp only[rG,wV,Bv,Bool.or_eq_false_iff,Aq]at h;obtain⟨⟨_,a⟩,hl⟩:=h;unfold tR;split
   ·rename_i n;have b:d+1<=32:=by
     rcases a with a|a;·omega
     ·omega
    refine GO l 1 V (fun x hx=> ?_);rw[BV]at hl;have e:tT x (d+1)=true:=gt;have o:=vd hx;simp only[J.mk.sizeOf_spec]at hj;have:=g x V (d+1) b e;omega
   ·omega
structure DpS(S:List Nd):Prop where df:∀x∈S,∀f∈x.fields,tR f.sO<=33
def dT(t:acM):tR (jT t)=0:=by simp[jT,tR]
def dTs(l:List acM):tR (Cm l)<=1:=AB V fun x a=>by obtain⟨t,_,rfl⟩:=sR.1 a;rw[dT];omega
def SM{d:Nat->Sh->J×Sh}{M:Int}(h:∀a st,tR (d a st).1<=M):∀(l:List Int)(st:Sh),∀x∈(BY d l st).1,tR x<=M
 | [],_,x,b=>by cases b
 |k::r,st,x,b=>
 by
  simp only[BY]at b;rcases sg.1 b with rfl|b;·exact h _ _
  ·exact SM h r _ x b
def XD{d:Nat->Sh->J×Sh}{M:Int}(e:33<=M)(h:∀a st,tR (d a st).1<=M)(f:Fd)(g:tR f.sO<=33)(st:Sh):tR (H7 d f st).1<=M+1:=by
 unfold H7;refine AB V (fun x b=> ?_);change x∈ [jT f.name,(d f.type.toNat st).1]++opt (tq f.aliases) (Cm f.aliases)++opt f.has f.sO at b;simp only[sl,sg,uA,Cp]at b;rcases b with((rfl|rfl)|b)|b;·rw[dT];omega
 ·have:=h f.type.toNat st;omega
 ·rw[xL b];have:=dTs f.aliases;omega
 ·rw[xL b];omega
def ON{g:Nat->Sh->J×Sh}{M:Int}(d:33<=M)(h:∀a st,tR (g a st).1<=M):∀(l:List Fd),(∀f∈l,tR f.sO<=33)->∀(st:Sh),∀x∈(v7 g l st).1,tR x<=M+1
 | [],_,_,x,b=>by cases b
 |f::r,e,st,x,b=>
 by
  simp only[v7]at b;rcases sg.1 b with rfl|b;·exact XD d h f (e f bi) st
  ·exact ON d h r (fun f i=>e f (by simp[i])) _ x b
def Zj(x:Nd):∀y∈Au x,tR y<=1:=fun y a=>
 by
  unfold Au at a;simp only[sl,sg,uA,Cp]at a;rcases a with(rfl|rfl|rfl)|a;·rw[dT];omega
  ·rw[dT];omega
  ·rw[dT];omega
  ·rw[xL a];exact dTs _
def XE{d:Nat->Sh->J×Sh}{M:Int}(g:33<=M)(h:∀a st,tR (d a st).1<=M)(x:Nd)(i:∀f∈x.fields,tR f.sO<=33)(st:Sh):tR (Pv d x st).1<=M+3:=by
 have e:=Zj x;unfold Pv;split
 ·refine AB V (fun y b=> ?_);change y∈Au x++[jL (v7 d x.fields st).1]at b;rcases sl.1 b with b|b;·have:=e y b;omega
  ·rw[sH.1 b];have:=AB (M:=M+2) (j:=jL (v7 d x.fields st).1) V (fun z k=>by have:=ON g h x.fields i st z k;omega);omega
 ·split
  ·refine AB V (fun y b=> ?_);change y∈Au x++[Cm x.symbols]++opt x.has (jT x.sO)at b;simp only[sl,sH]at b;rcases b with(b|rfl)|b;·have:=e y b;omega
   ·have:=dTs x.symbols;omega
   ·rw[xL b,dT];omega
  ·refine AB V (fun y b=> ?_);change y∈Au x++[jN x.size]at b;rcases sl.1 b with b|b;·have:=e y b;omega
   ·rw[sH.1 b];have:tR (jN x.size)=0:=by simp[jN,tR]
    omega
def SN{S:List Nd}(e:DpS S):∀(f:Nat)(ar:acM)(a:Nat)(st:Sh),tR (x8 S f ar a st).1<=33+3*(f:Int)
 |0,_,_,_=>by simp[x8,J.zero,tR]
 |f+1,ar,a,st=>
 by
  have d:=fun ar a st=>SN e f ar a st
  unfold x8;cases g:S[a]? with
  |none=>simp[J.zero,tR];omega
  |some x=>
   have i:=rL g;simp only;split;·simp only[dT];omega
   ·split
    ·split;·simp only[dT];omega
     ·have:=XE V (d (sE x.name)) x (e.df x i) (st.1.set a true,st.2||xW x);omega
    ·split;·have:=AB (M:=34+3*(f:Int)) (j:=jL (BY (x8 S f ar) x.rR st).1) V (fun z k=>by have:=SM (d ar) x.rR st z k;omega);exact Int.le_trans this V
     ·refine AB V (fun y b=> ?_);change y∈ [jT (tu x.kind),(x8 S f ar x.items.toNat st).1]at b;simp only[sg,uA,Cp]at b;rcases b with rfl|rfl;·rw[dT];omega
      ·have:=d ar x.items.toNat st;omega
def FG{j:J}(h:Br j J.zero=true):tR j<=33:=by rw[Ja h];simp[J.zero,tR]
def XF{S:List Nd}(h:um S 0=true):DpS S:=⟨fun x j f g=>
 by
  have e:=C6 ((wi h).2 x j);have i:=Fe e.2 (List.length_pos_of_mem g);have a:=e.1;unfold kindOk at a;rw[rv i]at a;unfold yo at a;rw[rG]at a;have b:=vY.1 a.1 f g;unfold CB at b;rw[rG]at b;have d:=b.2;split at d;·have:=Nl _ f.sO rT 0 V d;omega
  ·exact FG d⟩
def Qh(S:List Nd):tR (uI S 0)<=1000000:=by
 unfold uI;split
 ·rename_i h;have a:um S 0=true:=by unfold zq at h;exact iN
  have:=SN (XF a) 34 [] 0 (List.replicate S.length false,false);unfold Bs;omega
 ·simp[J.zero,tR]
def TJ(n:Int):1<=(zO n).length:=by
 unfold zO;rw[rC,xu];have:1<=(uU 20 n.natAbs).length:=by unfold uU;split<;>simp
 omega
def N7(t:acM):2<=(sU t).length:=by unfold sU;simp
def Yq:∀(N:Nat)(j:J),SizeOf.sizeOf j<=N->∀d:Nat,tT j d=true->Pw j<=4*(zQ j).length:=by
 intro N;induction N with
 |zero=>exact eX
 |succ N B=>
  intro j hj d h;cases j with
  |mk k i t l ks=>
   unfold tT at h;simp only[rG]at h;obtain⟨⟨⟨hb,e⟩,_⟩,hl⟩:=h;rw[BV]at hl;simp only[J.mk.sizeOf_spec]at hj;have v:∀x∈l,Pw x<=4*(zQ x).length:=fun x hx=>by have C:=vd hx;refine B x V (d+1) ?_;exact gt
   have z:∀l:List J,(∀x∈l,Pw x<=4*(zQ x).length)->KJ l+3*l.length<=4*(Av l).length:=by
    intro l;induction l with
    |nil=>intro _;simp[KJ,Av]
    |cons x r m=>intro h;have a:=h x bi;have b:=m (fun y g=>h y (by simp[g]));simp only[KJ,Av,rM,rC];omega
   have A:∀(l:List J)(ks:List acM),ks.length=l.length->(∀x∈l,Pw x<=4*(zQ x).length)->KJ l+3*l.length<=4*(zD l ks).length:=by
    intro l;induction l with
    |nil=>intro ks _ _;simp[KJ,zD]
    |cons x r m=>
     intro ks hk h;cases ks with
     |nil=>simp at hk
     |cons k ks=>have a:=h x bi;have b:=m ks jx (fun y g=>h y (by simp[g]));simp only[KJ,zD,rM,rC];omega
   have D:l.length=0->KJ l=0:=fun h=>by rw[rI h];rfl
   by_cases a:k=1;·subst a;simp[Ab]at hb;simp[Pw,zQ,hb,KJ]
   by_cases b:k=2;·subst b;simp[Ab]at hb;simp only[Pw,zQ,hb.2,KJ];simp only[Int.reduceEq,yW,uw];split<;>simp
   by_cases n:k=3;·subst n;simp[Ab]at hb;have:=TJ i;simp only[Pw,zQ,hb.2,KJ,Int.reduceEq,yW,uw];omega
   by_cases o:k=4;·subst o;simp[Ab]at hb;have:=N7 t;simp only[Pw,zQ,hb.1.2,KJ,Int.reduceEq,yW,uw];omega
   by_cases p:k=5;·subst p;have:=z l v;simp only[Pw,zQ,Int.reduceEq,yW,uw,rM,rC,sx,sc];omega
   by_cases q:k=6;·subst q;unfold BR at e;simp only[uw,rG,rQ]at e;have:=A l ks e.1.1 v;simp only[Pw,zQ,Int.reduceEq,yW,rM,rC,sx,sc];omega
   ·simp[Ab,a,b,n,o,p,q]at hb
def QY{j:J}{own:acM}(k:xC j)(h:yX j=.ok own):Aj own 100000=some (.ok j):=by obtain⟨b,a,l⟩:=Hl h;have i:=Yq _ j rT 0 b;rw[<-a]at i;obtain⟨w,d,_,_,g⟩:=WC (xs:=own) _ j rT k 0 V b 0 [] (by rw[a];simp) (fun c s e=>by cases e);unfold Aj;rw[ru V,d];simp only;rw[g 100000 V];simp only;rw[sY,<-a,Ui bi rT];simp
def Tx{S:List Nd}(m:∀x∈S,FL x)(hb:P4 S 0 S.length=0)(l:Ad S=0){own:acM}(h:Bt S 0=.ok own)(F:Nat)(k:SizeOf.sizeOf (uI S 0)<F):CH F own=(0,S)/\Aj own 100000=some (.ok (uI S 0)):=by
 unfold Bt at h;split at h
 ·rename_i a;split at h;·cases h
  ·have q:=PA m;have i:=QY q h;have o:tT (uI S 0) 0=true:=by unfold yX at h;exact iN
   have j:um S 0=true:=by
    unfold zq at a;split at a;·assumption
    ·cases a
   have p:(Bs S).2.2=false:=by
    unfold zq at a;rw[rv j]at a;cases r:(Bs S).2.2 with
    |false=>rfl
    |true=>rw[r,rv rfl]at a;cases a
   have g:uI S 0=(Bs S).1:=by unfold uI;rw[rv a]
   have d:=Nh j p F (by rw[<-Bs.eq_1,<-g];exact k);rw[<-Bs.eq_1,<-g]at d;have b:K9 F (uI S 0)=(0,S,0):=d;have e:Fz F (uI S 0)=0:=by unfold Fz;rw[rv o,b];exact hb
   have n:Dt F (uI S 0)=S:=by unfold Dt;rw[rv e,b]
   refine⟨?_,i⟩;unfold CH;rw[i];simp[We,I7,e,n,l]
 ·cases h
