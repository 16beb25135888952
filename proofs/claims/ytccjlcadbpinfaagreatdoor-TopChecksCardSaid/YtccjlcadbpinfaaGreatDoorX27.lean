import Derived.Test.YtccjlcadbpinfaaGreatDoorX24
import Derived.Test.YtccjlcadbpinfaaGreatDoorX25
import Derived.Lib.SlBytesConst
import Derived.ChangeArms
import Derived.ChangeSame
set_option linter.all false
set_option maxRecDepth 100000
set_option maxHeartbeats 16000000
namespace Go.Proofs.YtccjlcadbpinfaaGreatDoor.Tp
open ChangeShapes WideShapes ChangeAt RowKit
open Num Mem Can
def aan:CJ 46=[46]:=bH
def adN:(sB vi).length=6/\(sB tC).length=6/\(sB uM).length=11/\(sB ui).length=8/\(sB tY).length=9/\(sB xp).length=6/\(sB uW).length=7/\(sB wP).length=8:=bH
def wLn:(sB (tI 11)).length=7/\(sB (tI 12)).length=5:=bH
def Hj(i:Nat):(tV i).length=if 0<i then 1 else 0:=by unfold tV;split<;>simp
def Ia(t:afs):(sB t).length=(t.flatMap CJ).length+2:=by simp[sB]
def MO(t:afs):(sB t).length<=(sB (vU t)).length+(sB (sO t)).length:=by
 have e:=List.takeWhile_append_dropWhile (p:=(·!=(46:UInt8))) (l:=t.reverse);have b:t=(t.reverse.dropWhile (·!=46)).reverse++vU t:=by unfold vU;rw[<-List.reverse_append,e,List.reverse_reverse]
 have a:(t.reverse.dropWhile (·!=46)).reverse=sO t\/(t.reverse.dropWhile (·!=46)).reverse=sO t++[46]:=by
  unfold sO;have d:=List.head?_dropWhile_not (·!=(46:UInt8)) t.reverse;cases g:t.reverse.dropWhile (·!=46)with
  |nil=>exact .inl rfl
  |cons c r=>rw[g]at d;simp at d;subst d;exact .inr bA
 rw[Ia,Ia,Ia];rcases a with a|a
 ·rw[a]at b;conv=>lhs;rw[b]
  rw[xO,rL];omega
 ·rw[a]at b;conv=>lhs;rw[b]
  rw[xO,xO,rL,rL];simp[aan];omega
def Ij:∀(l:List J)(ks:List afs)(l':List J)(a:List afs),ks.length=l.length->wT (l++l') (ks++a)=wT l ks++wT l' a
 | [],[],l',a,_=>rfl
 | [],_::_,_,_,h=>ic
 |_::_,[],_,_,h=>ic
 |x::l,k::ks,l',a,h=>by simp only[si,wT];rw[Ij l ks l' a eK];simp
def Ds(ks:List afs)(l:List J):(xb (jO ks l)).length=(wT l ks).length-1+2:=by simp[jO,xb]
def Ik(l:List J):(xb (jL l)).length=(xc l).length-1+2:=by simp[jL,xb]
def AL(t:afs):xb (jT t)=sB t:=by simp[jT,xb]
def Yo(n:Int):xb (jN n)=zZ n:=by simp[jN,xb]
def JY(nd:Nat->CS->CS)(d:Nat->Sh->J×Sh):Prop:=∀(a:Nat)(b:afs)(st:Sh),(nd a (b,st.1)).2=(d a st).2.1/\(nd a (b,st.1)).1.length<=b.length+(xb (d a st).1).length
def cm{a:Type}(i:Nat)(l:List a):Nat:=if i=0/\0<l.length then 1 else 0
def cm0{a:Type}(l:List a):cm 0 l=min 1 l.length:=by unfold cm;split<;>omega
def JY.us{nd:Nat->CS->CS}{d:Nat->Sh->J×Sh}(h:JY nd d):∀(l:List Int)(i:Nat)(b:afs)(st:Sh),(Du nd i l (b,st.1)).2=(AJ d l st).2.1/\(Du nd i l (b,st.1)).1.length+cm i l<=b.length+(xc (AJ d l st).1).length
 | [],i,b,st=>⟨rfl,by simp[Du,AJ,cm,xc]⟩
 |k::r,i,b,st=>by obtain⟨j,e⟩:=h k.toNat (b++tV i) st;obtain⟨g,a⟩:=JY.us h r (i+1) (nd k.toNat (b++tV i,st.1)).1 (d k.toNat st).2;rw[<-j]at g a;have a:(Du nd (i+1) r (nd k.toNat (b++tV i,st.1))).1.length+cm (i+1) r<=_:=a;simp only[Du,AJ,xc];refine⟨g,?_⟩;rw[rL,Hj]at e;simp only[cm,rP,rL]at a|-;split at e<;>split<;>omega
def JY.fs{nd:Nat->CS->CS}{a:Nat->Sh->J×Sh}(h:JY nd a)(d:(sB vi).length=6)(e:(sB tC).length=6):∀(l:List Fd)(i:Nat)(b:afs)(st:Sh),(DL nd i l (b,st.1)).2=(vC a l st).2.1/\(DL nd i l (b,st.1)).1.length+cm i l<=b.length+(xc (vC a l st).1).length
 | [],i,b,st=>⟨rfl,by simp[DL,vC,cm,xc]⟩
 |f::r,i,b,st=>
 by
  obtain⟨j,k⟩:=h f.type.toNat (b++tV i++wK++sB f.name++xR) st;have x:(EM a f st).2=(a f.type.toNat st).2:=rfl;have m:T8 nd i f (b,st.1)=((T8 nd i f (b,st.1)).1,(EM a f st).2.1):=Prod.ext rfl j;obtain⟨n,o⟩:=JY.fs h d e r (i+1) (T8 nd i f (b,st.1)).1 (EM a f st).2;simp only[DL,vC,xc];rw[m];refine⟨n,?_⟩;have g:(T8 nd i f (b,st.1)).1.length<=b.length+(tV i).length+(xb (EM a f st).1).length:=by
   have p:(T8 nd i f (b,st.1)).1.length=(nd f.type.toNat (b++tV i++wK++sB f.name++xR,st.1)).1.length+1:=by simp[T8]
   have q:(xb (EM a f st).1).length>=17+(sB f.name).length+(xb (a f.type.toNat st).1).length:=by unfold EM;rw[Ds];simp only[si,so,wT,AL,rP,rL,d,e];omega
   have t:wK.length=8:=rfl;have v:xR.length=8:=rfl;simp only[rL]at k;omega
  rw[Hj]at g;simp only[cm,rP,rL]at o|-;split at g<;>split<;>omega
def VH:∀(l:List afs)(i:Nat)(b:afs),(Ge i l b).length+cm i l<=b.length+(xc (l.map jT)).length
 | [],i,b=>by simp[Ge,cm,xc]
 |s::r,i,b=>by have:=VH r (i+1) (b++tV i++sB s);simp only[Ge,xB,xc,AL,cm,rP,rL,Hj]at this|-;split at this<;>split<;>split at this<;>omega
def Vf{a:Type}(b:Bool)(x:a){d:Type}(y:d):(opt b x).length=(opt b y).length:=by cases b<;>rfl
def Hy(x:Nd)(ks:List afs)(l:List J)(a:(sB vi).length=6)(b:(sB tC).length=6)(d:(sB uM).length=11):(E7 x []).length+13+(wT l ks).length<=(wT (AF x++l) (BH x++ks)).length:=by have e:=MO x.name;have g:wK.length=8:=rfl;have h:xR.length=8:=rfl;unfold AF BH E7;rw[Ij _ _ _ _ (by simp only[rL];rw[Vf (tK x.aliases) tz (BY x.aliases)];rfl),Ij _ _ _ _ rfl];simp only[wT,AL,rP,rL,sl,a,b,d];omega
def Hg(x:Nd)(b:afs):(E7 x b).length=b.length+(E7 x []).length:=by simp[E7]
def JY.nd{nd:Nat->CS->CS}{a:Nat->Sh->J×Sh}(h:JY nd a)(x:Nd)(b:afs)(st:Sh)(d:(sB vi).length=6)(g:(sB tC).length=6)(i:(sB uM).length=11)(q:(sB ui).length=8)(t:(sB tY).length=9)(v:(sB xp).length=6):(W6 nd x (b,st.1)).2=(MV a x st).2.1/\(W6 nd x (b,st.1)).1.length<=b.length+(xb (MV a x st).1).length:=by
 unfold W6 MV;split
 ·obtain⟨m,n⟩:=h.fs d g x.fields 0 (E7 x b++zv) st;refine⟨m,?_⟩;have e:=Hy x [ui] [jL (vC a x.fields st).1] d g i;have j:=Hg x b;have k:zv.length=11:=rfl;have o:(vC a x.fields st).1.length=x.fields.length:=by
   generalize x.fields=l;clear m n e;induction l generalizing st with
   |nil=>rfl
   |cons f r y=>simp only[vC,rP];rw[y]
  have p:0<(xc (vC a x.fields st).1).length->0<x.fields.length:=by rw[<-o];cases(vC a x.fields st).1<;>simp[xc]
  simp only[Ds,wT,Ik,cm0,rL,rP,sl,q]at*;omega
 ·split
  ·have n:=VH x.symbols 0 (E7 x b++yT);refine⟨rfl,?_⟩;have e:=Hy x ([tY]++opt x.has sS) ([BY x.symbols]++opt x.has (jT x.sL)) d g i;have j:=Hg x b;have k:yT.length=12:=rfl;have p:0<(xc (x.symbols.map jT)).length->0<x.symbols.length:=by cases x.symbols<;>simp[xc]
   rw[<-sw,<-sw]at e;simp only[BY,Ds,sw,si,so,wT,Ik,cm0,rL,rP,sl,t]at*;omega
  ·refine⟨rfl,?_⟩;have e:=Hy x [xp] [jN x.size] d g i;have j:=Hg x b;have k:FQ.length=8:=rfl;simp only[Ds,wT,Yo,rL,rP,sl,v]at*;omega
def T9(S:List Nd)(A:∀x∈S,x.kind<=14):∀(f:Nat)(ar:afs),JY (CE S f) (xS S f ar):=by
 obtain⟨m,i,p,q,t,v,y,z⟩:=adN;obtain⟨w1,E⟩:=wLn;intro f;induction f with
 |zero=>intro ar a b st;exact⟨rfl,by simp[CE]⟩
 |succ f e=>
  intro ar a b st;unfold CE xS;cases C:S[a]? with
  |none=>exact⟨rfl,bA⟩
  |some x=>
   simp only;split;·exact⟨rfl,by simp[AL]⟩
   ·split
    ·split;·exact⟨rfl,by simp[AL]⟩
     ·exact(e (sO x.name)).nd x b (st.1.set a true,st.2||x7 x) m i p q t v
    ·rename_i B;split
     ·obtain⟨d,g⟩:=(e ar).us x.rX 0 (b++[91]) st;refine⟨d,?_⟩;have k:(AJ (xS S f ar) x.rX st).1.length=x.rX.length:=by
       generalize x.rX=l;clear d g;induction l generalizing st with
       |nil=>rfl
       |cons f r D=>simp only[AJ,rP];rw[D]
      have F:0<(xc (AJ (xS S f ar) x.rX st).1).length->0<x.rX.length:=by rw[<-k];cases(AJ (xS S f ar) x.rX st).1<;>simp[xc]
      simp only[Ik,cm0,rL,rP,sl]at*;omega
     ·split;·rename_i n;obtain⟨d,g⟩:=e ar x.items.toNat (b++zn) st;refine⟨d,?_⟩;have j:zn.length=24:=rfl;rw[n];simp only[Ds,wT,AL,rL,rP,sl,i,y,w1,rB (show¬(11:Int)=12 from bH)]at*;omega
      ·obtain⟨d,g⟩:=e ar x.items.toNat (b++Fi) st;refine⟨d,?_⟩;have o:x.kind=12:=by have:=A x (rU C);simp[sr]at B;omega
       have j:Fi.length=23:=rfl;rw[o];simp only[Ds,wT,AL,rL,rP,sl,i,z,E,rG]at*;omega
def Pq{S:List Nd}{own:afs}(h:zR S 0=.ok own):ur S 0=true/\own=xb (AK S).1/\own.length<=20000:=by
 unfold zR at h;split at h
 ·rename_i a;have e:ur S 0=true:=by
   cases d:ur S 0 with
   |true=>rfl
   |false=>unfold zQ at a;rw[d]at a;simp at a
  split at h;·cases h
  ·have b:=H7 h;unfold uZ at b;rw[rG a]at b;exact⟨e,b.2.1,b.2.2⟩
 ·cases h
def FB{S:List Nd}{own:afs}(h:zR S 0=.ok own):AU S 0=0/\own.length<=20000:=by
 obtain⟨b,rfl,a⟩:=Pq h;have e:∀x∈S,x.kind<=14:=fun x i=>by have:=(BT b).1.node x i;unfold vM at this;simp only[rO,sd]at this;exact this.1.2
 have d:=(T9 S e 34 [] 0 [] (List.replicate S.length false,false)).2;have g:AK S=xS S 34 [] 0 (List.replicate S.length false,false):=rfl;rw[g]at a;refine⟨?_,a⟩;unfold AU Hq;rw[rG b,rB];simp only[sl,tq]at d;omega
inductive Zc:J->Prop
 |mk {k i:Int} {t:afs} {l:List J} {ks:List afs} (ht:t.length<=2500) (hk:∀x∈ks,x.length<=2500) (hl:l.length<=2500/\ks.length<=2500) (hi:∀x∈l,Zc x):Zc (.mk k i t l ks)
structure BuF(f:Fd):Prop where
 nm:f.name.length<=2500
 al:f.aliases.length<=2500/\∀a∈f.aliases,a.length<=2500
 df:Zc f.sL
structure SR(x:Nd):Prop where
 nm:x.name.length<=2500/\x.sL.length<=2500
 al:x.aliases.length<=2500/\∀a∈x.aliases,a.length<=2500
 sy:x.symbols.length<=2500/\∀a∈x.symbols,a.length<=2500
 ln:x.fields.length<=2500/\x.rX.length<=2500
 fl:∀f∈x.fields,BuF f
def PR:∀(l:List afs)(n:Int),CV l n<=2500->n<=2500/\∀a∈l,a.length<=2500
 | [],n,h=>⟨h,bA⟩
 |a::r,n,h=>
 by
  simp only[CV]at h;split at h
  ·split at h;·omega
   ·obtain⟨b,h2⟩:=PR r _ h;exact oZ
  ·omega
def TY{a:J->Int}(hb:∀x,0<=a x):∀(l:List J)(n:Int),0<=n->L0 a l n<=2500->n<=2500/\∀x∈l,a x<=2500
 | [],n,_,h=>⟨h,bA⟩
 |x::r,n,b,h=>
 by
  have e:=hb x;simp only[L0]at h;split at h;·obtain⟨d,h2⟩:=TY hb r _ V h;exact oZ
  ·omega
def TZ:∀(f:Nat)(j:J),Gd f j<=2500->Zc j
 |0,j,h=>by simp[Gd]at h
 |f+1,.mk k i t l ks,h=>
 by
  by_cases a:2500<(t.length:Int)\/2500<(ks.length:Int)\/2500<(l.length:Int);·have:Gd (f+1) (.mk k i t l ks)=2501:=rG a;omega
  ·have h:L0 (Gd f) l (CV ks (1+t.length))<=2500:=by have:Gd (f+1) (.mk k i t l ks)=L0 (Gd f) l (CV ks (1+t.length)):=rB a;rw[<-this];exact h
   have b:=(Kn ks (1+t.length) V V).1;obtain⟨d,e⟩:=TY (fun x=>(E5 f x).1) l _ b h;exact .mk V (PR ks _ d).2 ⟨V,V⟩ (fun x g=>TZ f x (e x g))
def TW:∀(l:List Fd)(n:Int),0<=n->Nr l n<=2500->n<=2500/\∀f∈l,BuF f
 | [],n,_,h=>⟨h,bA⟩
 |f::r,n,g,h=>
 by
  have j:=DW f.aliases;have k:=(E5 61 f.sL).1;simp only[Nr]at h;split at h
  ·split at h;·omega
   ·obtain⟨i,b⟩:=TW r _ V h;have d:=Ps (l:=f.aliases) V;exact⟨V,List.forall_mem_cons.2 ⟨⟨V,⟨V,fun a e=>by have:=d.2 a e;omega⟩,TZ 61 _ V⟩,b⟩⟩
  ·omega
def T0:∀(l:List Nd)(n:Int),0<=n->PQ l n<=2500->∀x∈l,SR x
 | [],n,_,h=>bA
 |x::r,n,k,h=>
 by
  have o:=DW x.aliases;have p:=DW x.symbols;simp only[PQ]at h;split at h
  ·split at h;·omega
   ·have d:0<=n+x.name.length+x.fields.length+x.rX.length+x.sL.length+GI x.aliases+GI x.symbols:=V;have hb:Nr x.fields (n+x.name.length+x.fields.length+x.rX.length+x.sL.length+GI x.aliases+GI x.symbols)<=2500:=by apply Int.not_lt.1;intro j;rw[Gt j]at h;omega
    obtain⟨m,e⟩:=TW _ _ d hb;have g:=Ps (l:=x.aliases) V;have i:=Ps (l:=x.symbols) V;have q:=bkF_ge x.fields _ d;exact List.forall_mem_cons.2 ⟨⟨⟨V,V⟩,⟨V,fun a b=>by have:=g.2 a b;omega⟩,⟨V,fun a b=>by have:=i.2 a b;omega⟩,⟨V,V⟩,e⟩,T0 r _ V h⟩
  ·omega
where bkF_ge:∀(l:List Fd)(n:Int),0<=n->0<=Nr l n
 | [],n,h=>h
 |f::r,n,h=>
 by
  have h3:=DW f.aliases;have h4:=(E5 61 f.sL).1;simp only[Nr];split
  ·split;·omega
   ·exact bkF_ge r _ V
  ·exact h
def T1{S:List Nd}(h:Zu S<=2500):S.length<=2500/\∀x∈S,SR x:=by
 unfold Zu at h;split at h;·omega
 ·exact⟨V,T0 S _ V h⟩
structure RgN(x:Nd):Prop where
 it:D5 x.items
 br:∀b∈x.rX,D5 b
 ft:∀f∈x.fields,D5 f.type
 df:∀f∈x.fields,LI f.sL
section
variable{w:World}{a:Int}{S:List Nd}{j:J}{x:Nd}
def LY:∀(N:Nat)(j:J),SizeOf.sizeOf j<=N->Zc j->tS j:=by
 intro N;induction N with
 |zero=>intro j h;cases j;simp at h
 |succ N b=>
  intro j hj h;cases h with
  |mk e hk d a=>refine .mk V (fun x hx=>iJ) (fun x hx=>b x ?_ (a x hx));exact jd
def abB:∀(N:Nat)(j:J),SizeOf.sizeOf j<=N->∀d,Zc j->LI j->ue j d=true->yF j:=by
 intro N;induction N with
 |zero=>intro j h;cases j;simp at h
 |succ N r=>
  intro j hj d h g a;cases h with
  |mk y hk v p=>
   rename_i k i t l ks;cases g with
   |mk m n o=>
    unfold ue at a;rw[AI]at a;simp only[rO,xt,QQ,Bool.not_eq_false]at a;refine .mk V (fun x hx=>iJ) m n (fun b=> ?_) (fun x hx=>r x ?_ (d+1) (p x hx) (o x hx) (by have:=a.2 x hx;exact eV))
    ·have hb:=a.1.1.1;have e:=a.1.1.2;simp only[Aa]at hb;have q:k=6:=by
      simp only[U5]at b;rw[rB b.1,rB b.2.1,rB b.2.2.1,rB b.2.2.2.1]at hb;split at hb;·omega
      ·cases hb
     simp only[Bp]at e;rw[rG q]at e;simp only[rO,sd]at e;exact e.1.1
    ·exact jd
def SR.sm(h:SR x):PH x:=⟨ju,fun a b=>by have:=h.al.2 a b;omega,fun f d=>⟨by have:=(h.fl f d).nm;omega,fun a b=>by have:=(h.fl f d).al.2 a b;omega,LY _ _ rV (h.fl f d).df⟩,fun a b=>by have:=h.sy.2 a b;omega,ju⟩
def YC(h:BV j J.zero=true):yF j:=by
 cases j with
 |mk k i t l ks=>
  unfold J.zero at h;unfold BV at h;simp only[rO,sd]at h;obtain⟨⟨⟨⟨rfl,rfl⟩,rfl⟩,rfl⟩,h⟩:=h;cases l with
  |nil=>exact .mk bA bA V V bA bA
  |cons x l=>simp[BU]at h
def Zs(h:SR x)(m:RgN x)(l:vM S x=true):EH x:=by
 refine⟨ju,fun a d=>by have:=h.al.2 a d;omega,fun f b=>⟨by have:=(h.fl f b).nm;omega,fun a d=>by have:=(h.fl f b).al.2 a d;omega,?_⟩,fun a d=>by have:=h.sy.2 a d;omega,ju⟩;obtain⟨e,j⟩:=BQ l;have k:=CT j (Bh b);unfold kindOk yO at e;rw[rG k]at e;simp only[rO,wG]at e;have g:=e.1 f b;unfold Cd at g;simp only[rO]at g;have i:=g.2;split at i;·exact abB _ _ rV 0 (h.fl f b).df (m.df f b) i
 ·exact YC i
def YP(h:SR x)(a:RgN x):MtN x:=⟨ju,a.it,a.br,a.ft⟩
def TR(h:∀x∈S,SR x)(d:∀x∈S,RgN x):TD S:=⟨fun x a=>(h x a).sm,fun x a f b=>⟨LY _ _ rV ((h x a).fl f b).df,(d x a).df f b⟩⟩
def OD(e: -9223372036854775808<=a)(g:a<=9223372036854775807):D5 a:=by have b:IntKind.i64.min= -9223372036854775808:=rfl;have d:IntKind.i64.max=9223372036854775807:=rfl;show(decide (IntKind.i64.min<=a)&&decide (a<=IntKind.i64.max))=true;rw[b,d,rY e,rY g];rfl
def GH{X:afu}{A:aft}{n:Nat}{l:List afs}(h:Row w X 1 A n (uL l)):l.length=n:=oy
def Np.fit{X:afu}{cs:List Value}{j:J}(h:Np w X cs j):Zc j->uq w X cs j:=by
 induction h with
 |mk hr e q b g k o p l t n m=>
  intro hb;cases hb with
  |mk l r v d=>exact .mk hr e (fun i h a=>m i h a (d _ (sj a))) b g k cn (by have:=GH b;omega)
def Np.ints{X:afu}{cs:List Value}{j:J}(h:Np w X cs j):LI j:=by
 induction h with
 |mk r o l m p q g k t n a e=>exact .mk a.1 a.2 (fun x d=>by obtain⟨i,b,rfl⟩:=vx d;exact e i V b)
def Tw.fit{X:afu}{cs:List Value}{f:Fd}(h:Tw w X cs f)(hb:BuF f):DB w X cs f:=by
 cases h with
 |mk a b g i e j d=>exact .mk a b (by have:=GH a;have:=hb.al;omega) (d.fit hb.df)
def D9.pls{a:Type}{P:List Value->a->Prop}{k:Nat}{w:World}{X:afu}{A:aft}{n:Nat}{l:List a}(h:D9 P k w X A n l){x:a}(e:x∈l):∃cs,P cs x:=by obtain⟨g,j,m,b⟩:=h;obtain⟨i,d,rfl⟩:=vx e;exact⟨_,b i V d⟩
def Tx.fit{X:afu}{cs:List Value}{x:Nd}(h:Tx w X cs x)(hb:SR x):Lw w X cs x:=by
 cases h with
 |mk d e g j a z y A v t=>have p:=GH d;have q:=e.len;have r:=GH g;have l:=j.len;simp only[xZ,tN]at l;have:=hb.al;have:=hb.sy;have:=hb.ln;obtain⟨k,m,n,o⟩:=e;exact .mk d ⟨k,m,n,fun i h b=>(o i h b).fit (hb.fl _ (sj b))⟩ g j a.1.1 a.1.2 a.2.1 a.2.2 V V V V
def Tx.rg{X:afu}{cs:List Value}{x:Nd}(h:Tx w X cs x):RgN x:=by
 cases h with
 |mk p i q r j n m o e a=>
  refine⟨OD e.1 e.2,fun b hb=>OD (a b hb).1 (a b hb).2,fun f d=> ?_,fun f d=> ?_⟩;all_goals
   obtain⟨cs,k⟩:=i.pls d;cases k with
   |mk t j n o m g l=>first|exact OD g.1 g.2|exact l.ints
def CQ.rg{X:afu}{A:aft}{n:Nat}{S:List Nd}(h:CQ w X A n S):∀x∈S,RgN x:=fun x b=>by obtain⟨cs,a⟩:=D9.pls h b;exact a.rg
def CQ.fit{X:afu}{A:aft}{n:Nat}{S:List Nd}(h:CQ w X A n S)(hb:∀x∈S,SR x):tJ w X A n S:=by obtain⟨b,d,e,g⟩:=h;exact⟨b,d,e,fun i h a=>(g i h a).fit (hb _ (sj a))⟩
def JH(d:ur S 0=true)(hb:∀x∈S,SR x)(b:∀x∈S,RgN x):∀x∈S,EH x:=fun x a=>Zs (hb x a) (b x a) ((BT d).1.node x a)
def BE(a:vK S=0):ur S 0=true:=by
 cases h:ur S 0 with
 |true=>rfl
 |false=>unfold vK at a;rw[h]at a;simp at a
end
abbrev F0(k i:Int)(A:aft)(n c:Nat):Go.Obj:=.cells #[.int .i64 k,.int .i64 i,.int .u64 0,.slice none 0 0,.slice A n c,.slice none 0 0] 27
abbrev WM(k i:Int)(A:aft)(n c:Nat):Value:=.agg #[.int .i64 k,.int .i64 i,.int .u64 0,.slice none 0 0,.slice A n c,.slice none 0 0]
abbrev Tb(k i:Int)(A:aft)(n c:Nat):List Value:=[.int .i64 k,.int .i64 i,.int .u64 0,.slice none 0 0,.slice A n c,.slice none 0 0]
def V3(w:World)(g:Nat):Prop:=Bx w g (Tb 3 3 none 0 0)
abbrev TK(w:World)(e:Ending)(w':World):Prop:=e=.returned (.bool true)/\Below w.heap.size w w'
section
variable(b e:Nat)(m k i n:Int)(u:Nat)(w:World)(g:Nat)(S:List Nd)(x I K:Nd)(a:Nat)
def TQ(A:aft)(n c:Nat)(h:(k=3/\i=3/\n=0)\/(k=11/\i=0/\n=1))(w:World):Calls Tryz.prog 80 #[WM k i A n c] w (TK w):=by
 have a:=(afw w).al rV (F0 k i A n c);have e:Bx (w.alloc (F0 k i A n c)) w.heap.size (Tb k i A n c):=Bx.new w _ _ _ rfl;have r:=a.l1;go_enter Tryz.func80,Tryz.ntmps80;go_upto_region 1 with fail;generalize w.alloc _=w1 at*;refine sT [0,1,2,3,4,5,6,7,8,9,10,11,12,13,14,15,16,17,18,19,20,21,22] [] bm bm bA bm bt (fun wd b tj=> ?_);obtain⟨g,j,l,m,o,q, -⟩:=(e.below b r).xw;have t:w.heap.size+1<=wd.heap.size:=V;rcases h with⟨rfl,rfl,rfl⟩|⟨rfl,rfl,rfl⟩;all_goals
  repeat((first|(refine tm rfl rfl rfl bo ?_)|(refine tB rfl rfl rfl ?_)|(refine tH rfl rfl rfl (w.heap.size+1) V _ (by intro w' hb;have v:=(hb.cell (p:=rN w.heap.size 0) bl).trans g;have x:=(hb.cell (p:=rN w.heap.size 1) bl).trans j;have y:=(hb.cell (p:=rN w.heap.size 2) bl).trans l;have z:=(hb.cell (p:=rN w.heap.size 3) bl).trans m;have B:=(hb.cell (p:=rN w.heap.size 4) bl).trans o;have C:=(hb.cell (p:=rN w.heap.size 5) bl).trans q;clear hb;go_simp;first|done|with_reducible rfl) ?_));simp only[Act.put,rH,rC,rF])
  refine sQ ?_;go_wp2_with fail;go_ret;exact⟨rfl,a.sY rV b⟩
def W8(hx:S[a]? =some x)(I:x.kind=3)(w:World)(X:afu)(A:aft)(n c:Nat)(hr:tJ w X A n S)(ad:∀b,X b->b<w.heap.size):Calls Tryz.prog 36 #[.agg #[.slice A n c,.int .i64 0],.int .i64 (a:Int),WM 3 3 none 0 0] w (TK w):=by
 have af:a<n:=nN;obtain⟨e,l,y,T,b1,c1,U,b2,c2,W,b3,a0,Y,b4,a1,rfl,ar,hy,⟨r,t,v,z,B,C,D,E,F,G⟩, -⟩:=uY hr af;obtain rfl:x=y:=iX;have b7:(a:Int)<(n:Int):=V;have az:=ad e ar;have Z:=rz I;clear hy I;have i:=((afw w).al rV (FX (some ⟨e,l,none⟩) n c)).alloc bA (F0 3 3 none 0 0);have S1:=i.I8;have m:Bx ((w.alloc (FX (some ⟨e,l,none⟩) n c)).alloc (F0 3 3 none 0 0)) (w.heap.size+1) (Tb 3 3 none 0 0):=Bx.new (w.alloc (FX (some ⟨e,l,none⟩) n c)) _ _ _ bA;have aU:=i.s2;go_enter Tryz.func36,Tryz.ntmps36;go_upto_region 1 with fail;generalize(w.alloc _).alloc _=w1 at*;have b8:w.heap.size+2<=w1.heap.size:=V;have d:∀q,w1.cell? (rN e q)=w.cell? (rN e q):=fun q=>i.cell (p:=rN e q) az
 have a2:=(d _).trans r;have a3:=(d _).trans t;have a4:=(d _).trans v;have a5:=(d _).trans z;have a6:=(d _).trans B;have a7:=(d _).trans C;have a8:=(d _).trans D;have a9:=(d _).trans E;have aa:=(d _).trans F;have ab:=(d _).trans G;have s0:=S1.c 0 _ rfl;clear r t v z B C D E F G d aU;have g:=(afw w1).al rV (nC x T b1 c1 U b2 c2 W b3 a0 Y b4 a1);have j:=g.yg;have b0:=g.l1;go_upto_region 2 with fail;generalize w1.alloc _=b5 at*;have b6:=S1.below g V;have o:=m.below g V;have an:=i.sY V g;clear a2 a3 a4 a5 a6 a7 a8 a9 aa ab s0 S1 m i g;rw[Z.out]at j;obtain⟨L,M,N,O,Q,R, -⟩:=o.xw;have K:=j.c 0 _ rfl;go_wp2_with fail;refine sG (TQ 3 3 none 0 0 (.inl ⟨rfl,rfl,rfl⟩) b5) fun b9 k=> ?_
 clear L M N O Q R K;obtain⟨L,M,N,O,Q,R, -⟩:=(o.below k V).xw;have K:=(j.below k b0).c 0 _ rfl;go_wp2_with fail;go_ret;exact⟨rfl,an.sY V k⟩
def adL(h:w.cell? (rN b 8)=some (.int .i64 m)):Calls Tryz.prog 85 #[.int .i64 i,sg b] w (zW w (.int .i64 m)):=by go_enter Tryz.func85,Tryz.ntmps85;exact bI
def ZF(a3:S[a]? =some x)(W:x.kind=3)(w:World)(X:afu)(A:aft)(n c:Nat)(a0:tJ w X A n S)(hX:∀b,X b->b<w.heap.size)(g:Nat)(B:V3 w g)(l:Nat)(Y:w.cell? (rN l 8)=some (.int .i64 (a:Int)))(Z:l<w.heap.size):Calls Tryz.prog 82 #[.agg #[.slice A n c,.int .i64 0],.slice (some ⟨g,0,none⟩) 1 1,.func (.func 85) #[] #[sg l]] w (TK w):=by
 have r:=(afw w).al rV (FX A n c);have S1:=r.yg;have a1:=r.l1;have T:=Bx.CG B;go_enter Tryz.func82,Tryz.ntmps82;go_upto_region 1 with fail;generalize w.alloc _=w1 at*;go_wp2_with fail;go_loopw [11] (fun o wr=>(o=.int .i64 0\/o=.int .i64 1)/\Below w1.heap.size w1 wr) (fun o _=>1-(intOf o).toNat);case atStart=>exact⟨.inl rfl,Below.refl _ _⟩
 case
  round=>
   obtain⟨h,m⟩:=hrel;have t:=r.sY rV m;have an:=m.size;rcases h with rfl|rfl
   ·obtain⟨F,G,I,K,L,M, -⟩:=(Bx.below B t T).xw;have i:=(afw wr).al rV (F0 3 3 none 0 0);have V3:Bx (wr.alloc (F0 3 3 none 0 0)) wr.heap.size (Tb 3 3 none 0 0):=Bx.new wr _ _ _ rfl;have a2:=i.l1;go_upto_region 4 with fail;generalize wr.alloc _=ar at*;have ad:=i.size;have q:=(S1.below m a1).below i V;have v:=t.sY V i;have O:=m.sY rV i;clear F G I K L M;refine sT [0,1,2,4,3,5,6] [3,5] bm bm bA bm bt (fun wd e tj=> ?_);have z:=v.sY V e;have R:=O.sY rV e;have af:=e.size;have a4:=(q.below e V).c 0 _ rfl;have a5:=(q.below e V).c 1 _ rfl;obtain⟨a6,a7,a8,a9,aa,ab, -⟩:=(V3.below e a2).xw;have N:=adL l (a:Int) 0 wd ((z.cell (p:=rN l 8) Z).trans Y);have U:=fun D(C:Below wd.heap.size wd D)=>W8 S x a a3 W D X A n c ((a0.below z hX).below C bq) (fun b hb=>by have:=hX b hb;have:=C.size;omega)
    clear e tj V3 q i v;repeat((first|(refine tm rfl rfl rfl bo ?_)|(refine tB rfl rfl rfl ?_)|(refine tH rfl rfl rfl (wd.heap.size) V _ (by intro w' hb;have aU:=(hb.cell (p:=rN w.heap.size 0) bl).trans a4;have b0:=(hb.cell (p:=rN w.heap.size 1) bl).trans a5;have b1:=(hb.cell (p:=rN wr.heap.size 0) bl).trans a6;have b2:=(hb.cell (p:=rN wr.heap.size 1) bl).trans a7;have b3:=(hb.cell (p:=rN wr.heap.size 2) bl).trans a8;have b4:=(hb.cell (p:=rN wr.heap.size 3) bl).trans a9;have b5:=(hb.cell (p:=rN wr.heap.size 4) bl).trans aa;have b6:=(hb.cell (p:=rN wr.heap.size 5) bl).trans ab;clear hb;go_simp;first|done|with_reducible rfl) ?_));simp only[Act.put,rH,rC,rF])
    refine tc rfl rfl wd.heap.size rV (fun E j=> ?_);go_wp2_with fail;refine tZ N ?_;go_wp2_with fail;refine j _ _ xn ?_;clear j;repeat((first|(refine tm rfl rfl rfl bo ?_)|(refine tB rfl rfl rfl ?_)|(refine tH rfl rfl rfl (wd.heap.size) V _ bJ ?_));simp only[Act.put,rH,rC,rF])
    refine tc rfl rfl wd.heap.size rV (fun E j=> ?_);go_wp2_with fail;refine sG (U _ xn) fun az y=> ?_
    go_wp2_with fail;refine j _ _ y ?_;clear j;refine aS ?_;refine sQ ?_;go_wp2_with fail;refine⟨⟨.inr rfl,R.sY rV y⟩,?_⟩;simp[intOf]
   ·go_wp2_with fail;go_ret;exact⟨rfl,t⟩
def W7(b2:S[a]? =some I)(b8:I.kind=3)(hx:S[0]? =some x)(Q:x.kind=11)(O:x.items=(a:Int))(w:World)(X:afu)(A:aft)(n c:Nat)(hr:tJ w X A n S)(hX:∀b,X b->b<w.heap.size)(g:Nat)(N:V3 w g):Calls Tryz.prog 36 #[.agg #[.slice A n c,.int .i64 0],.int .i64 0,WM 11 0 (some ⟨g,0,none⟩) 1 1] w (TK w):=by
 have b3:0<n:=nN;obtain⟨e,k,y,a2,bk,c1,a3,bn,c2,a4,bp,a8,a5,br,a9,rfl,b9,hy,⟨o,r,t,v,z,B,C,D,E,F⟩, -⟩:=uY hr b3;obtain rfl:x=y:=iX;rw[show k+0*10=k from V]at o r t v z B C D E F;have bw:(0:Int)<(n:Int):=V;have bd:=hX e b9;have a7:=rz Q;have a6:=rz O;clear hy Q O;have l:=((afw w).al rV (FX (some ⟨e,k,none⟩) n c)).alloc bA (F0 11 0 (some ⟨g,0,none⟩) 1 1);have S1:=l.I8;have L:Bx ((w.alloc (FX (some ⟨e,k,none⟩) n c)).alloc (F0 11 0 (some ⟨g,0,none⟩) 1 1)) (w.heap.size+1) (Tb 11 0 (some ⟨g,0,none⟩) 1 1):=Bx.new (w.alloc (FX (some ⟨e,k,none⟩) n c)) _ _ _ bA;have be:=l.s2;go_enter Tryz.func36,Tryz.ntmps36;go_upto_region 1 with fail;generalize(w.alloc _).alloc _=w1 at*;have bx:w.heap.size+2<=w1.heap.size:=V;have d:∀q,w1.cell? (rN e q)=w.cell? (rN e q):=fun q=>l.cell (p:=rN e q) bd
 have aa:=(d _).trans o;have ab:=(d _).trans r;have ad:=(d _).trans t;have af:=(d _).trans v;have an:=(d _).trans z;have ar:=(d _).trans B;have az:=(d _).trans C;have aU:=(d _).trans D;have b0:=(d _).trans E;have b1:=(d _).trans F;have s0:=S1.c 0 _ rfl;clear o r t v z B C D E F d be;have j:=(afw w1).al rV (nC x a2 bk c1 a3 bn c2 a4 bp a8 a5 br a9);have m:=j.yg;have R:=j.l1;go_upto_region 2 with fail;generalize w1.alloc _=bs at*;have K:=S1.below j V;have M:=L.below j V;have b4:=l.sY V j;clear aa ab ad af an ar az aU b0 b1 s0 S1 L l j;rw[a7.out,a6.out]at m;obtain⟨U,W,Y,Z,a0,a1, -⟩:=M.xw;have T:=m.c 0 _ rfl;have b7:=Bx.CG N;go_wp2_with fail;refine sG (TQ 11 0 (some ⟨g,0,none⟩) 1 1 (.inr ⟨rfl,rfl,rfl⟩) bs) fun bv i=> ?_
 clear U W Y Z a0 a1 T;have G:=b4.sY V i;obtain⟨U,W,Y,Z,a0,a1, -⟩:=(M.below i V).xw;have T:=(m.below i R).c 0 _ rfl;have bj:=(m.below i R).c 8 _ rfl;have s0:=(K.below i V).c 0 _ rfl;have s1:=(K.below i V).c 1 _ rfl;have bz:=i.size;have b6:=ZF S I a b2 b8 bv X (some ⟨e,k,none⟩) n c (hr.below G hX) bq g (Bx.below N G b7) w1.heap.size bj V;go_wp2_with fail;refine sG b6 fun bO b5=> ?_
 go_wp2_with fail;go_ret;exact⟨rfl,G.sY V b5⟩
def S0:List Nd:=[{CH with kind:=11,items:=1},{CH with kind:=3}]
def rs0:ur S0 0=true:=bm
def sm0:∀x∈S0,PH x:=fun x a=>
 by
  have h:∀k i:Int,PH {CH with kind:=k,items:=i}:=fun k i=>⟨ee,ee,ee,ee,ee⟩
  rcases sD.1 a with rfl|a;·exact h 11 1
  ·rw[sJ.1 a];exact h 3 0
def Oa(m:uI w)(X:afu)(A:aft)(n c:Nat)(e:tJ w X A n S0)(hX:∀b,X b->b<w.heap.size)(g:Nat)(k:V3 w g):Calls Tryz.prog 13 #[.agg #[.slice A n c,.int .i64 0],.int .i64 0,WM 11 0 (some ⟨g,0,none⟩) 1 1] w (TK w):=by
 have v:n<=2:=zD e.len.symm;have x:(0:Int)<(n:Int):=by have:2<=n:=zD e.len;omega
 have a:=((afw w).al rV (FX A n c)).alloc bA (F0 11 0 (some ⟨g,0,none⟩) 1 1);have S1:=a.I8;have l:Bx ((w.alloc (FX A n c)).alloc (F0 11 0 (some ⟨g,0,none⟩) 1 1)) (w.heap.size+1) (Tb 11 0 (some ⟨g,0,none⟩) 1 1):=Bx.new (w.alloc (FX A n c)) _ _ _ bA;have y:=a.s2;have r:=Bx.CG k;go_enter Tryz.func13,Tryz.ntmps13;go_upto_region 1 with fail;generalize(w.alloc _).alloc _=w1 at*;have o:∀b,X b->b<w1.heap.size:=fun b hb=>bC
 have i:=yp S0 0 w1 X A n c (e.below a hX) o V (m.below a) sm0;rw[rs0]at i;have s0:=S1.c 0 _ rfl;have s1:=S1.c 1 _ rfl;go_wp2_with fail;refine sG i fun t d=> ?_
 clear i s0 s1;have j:=a.sY V d;have z:=d.size;have s0:=(S1.below d V).c 0 _ rfl;have s1:=(S1.below d V).c 1 _ rfl;obtain⟨B,C,D,E,F,G, -⟩:=(l.below d V).xw;have q:=W7 S0 _ _ 1 rfl rfl rfl rfl rfl t X A n c (e.below j hX) bq g (Bx.below k j r);go_wp2_with fail;refine sG q fun I p=> ?_
 go_wp2_with fail;go_ret;exact⟨rfl,j.sY V p⟩
def Xb:Calls Tryz.prog 73 #[WM 3 3 none 0 0] w (vh w (.int .i64 0)):=by have sK:=(afw w).al rV (F0 3 3 none 0 0);have a:Bx (w.alloc (F0 3 3 none 0 0)) w.heap.size (Tb 3 3 none 0 0):=Bx.new w _ _ _ rfl;go_enter Tryz.func73,Tryz.ntmps73;go_upto_region 1 with fail;generalize w.alloc _=w1 at*;have b:=a.c 0 _ rfl;exact bL
def Xa(j:V3 w g):Calls Tryz.prog 73 #[WM 11 0 (some ⟨g,0,none⟩) 1 1] w (vh w (.int .i64 1)):=by
 have d:=(afw w).al rV (F0 11 0 (some ⟨g,0,none⟩) 1 1);have b:Bx (w.alloc (F0 11 0 (some ⟨g,0,none⟩) 1 1)) w.heap.size (Tb 11 0 (some ⟨g,0,none⟩) 1 1):=Bx.new w _ _ _ rfl;have y:=d.l1;have m:=Bx.CG j;go_enter Tryz.func73,Tryz.ntmps73;go_upto_region 1 with fail;generalize w.alloc _=w1 at*;have o:=b.c 0 _ rfl;have z:=b.c 4 _ rfl;go_upto_region 7 with fail;clear o;go_wp2_with fail;go_loopw [3,16] (fun n a wr=>n=.int .i64 1/\(a=.int .i64 0\/a=.int .i64 1)/\Below w1.heap.size w1 wr) (fun _ a _=>1-(intOf a).toNat);case atStart=>exact⟨rfl,.inl rfl,Below.refl _ _⟩
 case
  round=>
   obtain⟨rfl,h,i⟩:=hrel;have e:=d.sY rV i;rcases h with rfl|rfl
   ·obtain⟨p,q,r,t,v,x, -⟩:=(Bx.below j e m).xw;have k:=(afw wr).al rV (F0 3 3 none 0 0);go_wp2_with fail;refine sG (Xb _) fun A l=> ?_
    go_wp2_with fail;refine⟨⟨rfl,.inr rfl,(i.sY rV k).sY rV l⟩,?_⟩;simp[intOf]
   ·go_wp2_with fail;go_ret;exact⟨rfl,e⟩
def KS{w:World}{a b n c:Nat}{A:aft}{xs:afs}(h:Mem.Own w a A n c xs)(hb:b<=a):Mem.Own w b A n c xs:=⟨h.1,h.2.imp id fun⟨g,cap,d,k,e,i,j⟩=>⟨g,cap,d,k,sn hb e,i,j⟩⟩
def QY(a:Nat)(w:World)(xs:afs)(e:Ending)(w':World):Prop:=∃A c,e=.returned (.slice A xs.length c)/\Mem.Own w' a A xs.length c xs/\Below a w w'
def Pz(d:YD n=(u:Int))(r:u<128)(q: -100<=n/\n<=100)(xs:afs)(p:xs.length<=100)(A:aft)(c a:Nat)(w:World)(k:Mem.Own w a A xs.length c xs)(o:a<=w.heap.size):Calls Tryz.prog 133 #[.slice A xs.length c,.int .i64 n] w (QY a w (xs++[UInt8.ofNat u])):=by
 have b:((u:Int))=((UInt8.ofNat u).toNat:Int):=cw;have g:=rz b;have i:=rz d;have t:¬(128:Int)<=(u:Int):=V;clear b d;go_enter Tryz.func133,Tryz.ntmps133;go_wp2_with fail;refine tZ (Zg.YE n V V w) ?_;rw[i.out];go_wp2_with fail;go_loopw [0,5] (fun s0 m wr=>s0=.slice A xs.length c/\m=.int .u64 (u:Int)/\wr=w) (fun _ _ _=>0);case atStart=>exact⟨rfl,rfl,rfl⟩
 case round=>obtain⟨rfl,rfl,rfl⟩:=hrel;go_wp2_with(at_builtin;refine zb rfl rfl (k.alloc _) rfl (rd_val _ (UInt8.ofNat u) _ g.out) V (by simp;omega) ?_;intro e c2 v l j);go_ret;refine⟨e,c2,by rw[rL];rfl,by rw[rL];exact l,(xn.alloc V _).trans j⟩
def Xe(hx:S[a]? =some x)(G:x.kind=3)(w:World)(X:afu)(A:aft)(n c e:Nat)(hr:tJ w X A n S)(a9:∀b,X b->b<w.heap.size)(a8:w.cell? (rN e 0)=some (.slice A n c))(ad:e<w.heap.size):Calls Tryz.prog 74 #[sg e,.slice none 0 0,.int .i64 (a:Int),WM 3 3 none 0 0] w (QY w.heap.size w [6]):=by
 have aa:a<n:=nN;obtain⟨j,b8,y,I,b0,c1,K,b1,c2,L,b2,U,M,b3,W,rfl,ar,hy,⟨m,o,r,t,v,z,B,C,D,E⟩, -⟩:=uY hr aa;obtain rfl:x=y:=iX;have b5:(a:Int)<(n:Int):=V;have az:=a9 j ar;have Q:=rz G;clear hy G;have i:=((afw w).al rV (.cells #[sg e] 152)).alloc bA (F0 3 3 none 0 0);have O:=i.I8;have R:Bx ((w.alloc (.cells #[sg e] 152)).alloc (F0 3 3 none 0 0)) (w.heap.size+1) (Tb 3 3 none 0 0):=Bx.new (w.alloc (.cells #[sg e] 152)) _ _ _ bA;have aU:=i.s2;go_enter Tryz.func74,Tryz.ntmps74;go_upto_region 1 with fail;generalize(w.alloc _).alloc _=w1 at*;have b6:w.heap.size+2<=w1.heap.size:=V;have g:∀q,w1.cell? (rN j q)=w.cell? (rN j q):=fun q=>i.cell (p:=rN j q) az
 have Y:=(g _).trans m;have Z:=(g _).trans o;have a0:=(g _).trans r;have a1:=(g _).trans t;have a2:=(g _).trans v;have a3:=(g _).trans z;have a4:=(g _).trans B;have a5:=(g _).trans C;have a6:=(g _).trans D;have a7:=(g _).trans E;have s0:=O.c 0 _ rfl;have s1:=i.cl a8 ad;clear m o r t v z B C D E g aU;have k:=(afw w1).al rV (nC x I b0 c1 K b1 c2 L b2 U M b3 W);have l:=k.yg;go_upto_region 2 with fail;generalize w1.alloc _=b4 at*;have T:=R.below k V;have F:=i.sY V k;clear Y Z a0 a1 a2 a3 a4 a5 a6 a7 s0 s1;rw[Q.out]at l;have b7:=l.c 0 _ rfl;have b9:=T.c 1 _ rfl;have an:=Pz 3 6 bH V V [] bA none 0 w.heap.size b4 (uH _ _ _ _) F.size;go_wp2_with fail;refine an.mono ?_;rintro e' bd ⟨N,d,rfl,af,ab⟩;go_wp2_with fail;go_ret;exact⟨N,d,rfl,af,F.trans ab⟩
def Z9(a2:S[a]? =some x)(T:x.kind=3)(w:World)(X:afu)(A:aft)(n c e l j m g:Nat)(a0:tJ w X A n S)(hX:∀b,X b->b<w.heap.size)(K:w.cell? (rN e 0)=some (.slice A n c))(O:e<w.heap.size)(Y:w.cell? (rN l 0)=some (sg e))(U:w.cell? (rN j 8)=some (.int .i64 (a:Int)))(a1:w.cell? (rN m 4)=some (.slice (some ⟨g,0,none⟩) 1 1))(M:l<w.heap.size)(L:j<w.heap.size)(N:m<w.heap.size)(t:V3 w g):Calls Tryz.prog 137 #[.slice none 0 0,.int .i64 0,sg l,sg j,sg m] w (QY w.heap.size w [6]):=by
 have R:=Bx.CG t;go_enter Tryz.func137,Tryz.ntmps137;go_upto_region 1 with fail;refine sT [0,1,2,3,4,5,6,7,8,9,10] [9] bm bm bA bm bt (fun wd i tj=> ?_);have y:=i.cl Y M;have z:=i.cl U L;have B:=i.cl a1 N;obtain⟨C,D,E,F,G,I, -⟩:=(Bx.below t i R).xw;have Z:=Xe S x a a2 T wd X A n c e (a0.below i hX) bq ((i.cell (p:=rN e 0) O).trans K) V;have o:=i;clear tj;repeat((first|(refine tm rfl rfl rfl bo ?_)|(refine tB rfl rfl rfl ?_)|(refine tH rfl rfl rfl (w.heap.size) V _ (by intro w' hb;have a5:=(hb.cell (p:=rN l 0) bl).trans y;have a6:=(hb.cell (p:=rN j 8) bl).trans z;have a7:=(hb.cell (p:=rN m 4) bl).trans B;have a8:=(hb.cell (p:=rN g 0) bl).trans C;have a9:=(hb.cell (p:=rN g 1) bl).trans D;have aa:=(hb.cell (p:=rN g 2) bl).trans E;have ab:=(hb.cell (p:=rN g 3) bl).trans F;have ad:=(hb.cell (p:=rN g 4) bl).trans G;have af:=(hb.cell (p:=rN g 5) bl).trans I;clear hb;go_simp;first|done|with_reducible rfl) ?_));simp only[Act.put,rH,rC,rF])
 refine tc rfl rfl w.heap.size rV (fun a3 q=> ?_);go_wp2_with fail;refine Z.mono ?_;rintro e' a4 ⟨v,d,rfl,W,r⟩;go_wp2_with fail;refine q _ _ (r.mono o.size) ?_;clear q;refine aS ?_;refine sQ ?_;go_wp2_with fail;go_ret;exact⟨v,d,rfl,KS W o.size,o.sY rV r⟩
def abC(a:w.cell? (rN e 2)=some (.slice none 0 0)):Calls Tryz.prog 181 #[sg e,.int .i64 m] w (zW w (.tuple #[.int .i64 m,.bool false])):=by go_enter Tryz.func181,Tryz.ntmps181;go_wp2_with fail;go_ret2;exact bK
def T5(i:Nat)(N:∀args w,(callFunc i args).run Tryz.prog w=.ok (.enter i args) w)(lb:Array Value)(w:World)(e:Nat)(D:w.cell? (rN e 2)=some (.slice none 0 0))(E:Calls Tryz.prog i (#[.slice none 0 0,.int .i64 0]++lb) w (QY w.heap.size w [6])):Calls Tryz.prog 136 #[sg e,.slice none 0 0,.int .i64 1,.func (.func i) #[] lb] w (QY w.heap.size w [2,6,0]):=by
 go_enter Tryz.func136,Tryz.ntmps136;go_wp2_with fail;go_loopw [1,9] (fun s1 k wr=>(k=.int .i64 0/\s1=.slice none 0 0/\wr=w)\/(k=.int .i64 1/\∃(A:aft)(c:Nat),s1=.slice A 2 c/\Mem.Own wr w.heap.size A 2 c [2,6]/\Below w.heap.size w wr)) (fun _ k _=>1-(intOf k).toNat);case atStart=>exact .inl ⟨rfl,rfl,rfl⟩
 case
  round=>
   rcases hrel with⟨rfl,rfl,rfl⟩|⟨rfl,v,c2,rfl,I,p⟩
   ·obtain⟨g,M⟩:=sW wr;subst M;go_wp2_with fail;refine tZ (abC e 1 g D) ?_;go_wp2_with fail;go_loopw [12,13] (fun r j wr=>(j=.int .i64 0/\r=.slice none 0 0/\wr=g)\/(j=.int .i64 1/\∃(C:aft)(d:Nat),r=.slice C 1 d/\Mem.Own wr g.heap.size C 1 d [6]/\Below g.heap.size g wr)) (fun _ j _=>1-(intOf j).toNat);case atStart=>exact .inl ⟨rfl,rfl,rfl⟩
    case
     round=>
      rcases hrel with⟨rfl,rfl,rfl⟩|⟨rfl,C,d,rfl,G,hb⟩;·go_wp2_with fail;refine E.mono ?_;rintro o t ⟨y,B,rfl,b,a⟩;go_wp2_with fail;refine⟨.inr ⟨rfl,y,B,rfl,b,a⟩,?_⟩;simp[intOf]
      ·have l:=Pz 1 2 bH V V [] bA none 0 wr.heap.size wr (uH _ _ _ _) rV;have q:=hb.size;go_wp2_with fail;refine l.mono ?_;rintro o t ⟨m,n,rfl,b,a⟩;have L:=(G.below a).rd;go_wp2_with(at_builtin;refine zb rfl rfl b rfl L bA a.size ?_;intro x z O K F);refine⟨.inr ⟨rfl,x,z,rfl,KS K q,hb.trans ((a.trans F).mono q)⟩,?_⟩;simp[intOf]
   ·have l:=Pz 0 0 bH V V [2,6] bA v c2 w.heap.size wr I p.size;go_wp2_with fail;refine l.mono ?_;rintro o t ⟨m,n,rfl,b,a⟩;go_wp2_with fail;go_ret;exact⟨m,n,rfl,b,p.trans a⟩
def Xd(az:S[a]? =some K)(b6:K.kind=3)(hx:S[0]? =some x)(Q:x.kind=11)(O:x.items=(a:Int))(w:World)(X:afu)(A:aft)(n c e g:Nat)(hr:tJ w X A n S)(hX:∀b,X b->b<w.heap.size)(aU:w.cell? (rN e 0)=some (.slice A n c))(b0:w.cell? (rN e 2)=some (.slice none 0 0))(M:e<w.heap.size)(N:V3 w g):Calls Tryz.prog 74 #[sg e,.slice none 0 0,.int .i64 0,WM 11 0 (some ⟨g,0,none⟩) 1 1] w (QY w.heap.size w [2,6,0]):=by
 have b1:0<n:=nN;obtain⟨l,I,y,T,bj,c1,U,bk,c2,W,bn,a4,Y,bp,a5,rfl,b8,hy,⟨r,t,v,z,B,C,D,E,F,G⟩, -⟩:=uY hr b1;obtain rfl:x=y:=iX;rw[show I+0*10=I from V]at r t v z B C D E F G;have bx:(0:Int)<(n:Int):=V;have b9:=hX l b8;have a1:=rz Q;have a0:=rz O;clear hy Q O;have b4:=Bx.CG N;have k:=((afw w).al rV (.cells #[sg e] 152)).alloc bA (F0 11 0 (some ⟨g,0,none⟩) 1 1);have L:=k.I8;have a2:Bx ((w.alloc (.cells #[sg e] 152)).alloc (F0 11 0 (some ⟨g,0,none⟩) 1 1)) (w.heap.size+1) (Tb 11 0 (some ⟨g,0,none⟩) 1 1):=Bx.new (w.alloc (.cells #[sg e] 152)) _ _ _ bA;have bd:=k.s2;go_enter Tryz.func74,Tryz.ntmps74;go_upto_region 1 with fail;generalize(w.alloc _).alloc _=w1 at*;have bz:w.heap.size+2<=w1.heap.size:=V;have i:∀q,w1.cell? (rN l q)=w.cell? (rN l q):=fun q=>k.cell (p:=rN l q) b9
 have a6:=(i _).trans r;have a7:=(i _).trans t;have a8:=(i _).trans v;have a9:=(i _).trans z;have aa:=(i _).trans B;have ab:=(i _).trans C;have ad:=(i _).trans D;have af:=(i _).trans E;have an:=(i _).trans F;have ar:=(i _).trans G;have s0:=L.c 0 _ rfl;have s1:=k.cl aU M;have s2:=k.cl b0 M;clear r t v z B C D E F G i bd;have j:=(afw w1).al rV (nC x T bj c1 U bk c2 W bn a4 Y bp a5);have o:=j.yg;have bO:=j.l1;go_upto_region 2 with fail;generalize w1.alloc _=R at*;have a3:=a2.below j V;have m:=k.sY V j;have br:=(L.below j V).c 0 _ rfl;have bs:=j.cl s1 V;have bv:=j.cl s2 V;clear a6 a7 a8 a9 aa ab ad af an ar s0 s1 s2;rw[a1.out,a0.out]at o;have c3:=o.c 0 _ rfl;have be:=o.c 8 _ rfl;have bw:=a3.c 4 _ rfl;have b5:=Z9 S K a az b6 R X (some ⟨l,I,none⟩) n c e w.heap.size w1.heap.size (w.heap.size+1) g (hr.below m hX) bq bs V br be bw V V V (Bx.below N m b4);have b3:=T5 137 (enters_of Tryz.func137 bm rfl) #[sg w.heap.size,sg w1.heap.size,sg (w.heap.size+1)] R e bv b5;go_wp2_with fail;refine b3.mono ?_;rintro e' c4 ⟨Z,d,rfl,b7,b2⟩;go_wp2_with fail;go_ret;exact⟨Z,d,rfl,KS b7 m.size,m.sY rV b2⟩
def TH(w:World)(e:Ending)(w':World):Prop:=∃A c,e=.returned (.tuple #[.slice A 3 c,.int .i64 0])/\Rd w' w'.heap.size A 3 [2,6,0]/\Below w.heap.size w w'
def ZB(F:uI w)(X:afu)(A:aft)(n c:Nat)(C:tJ w X A n S0)(hX:∀b,X b->b<w.heap.size)(g:Nat)(j:V3 w g):Calls Tryz.prog 34 #[.agg #[.slice A n c,.int .i64 0],.int .i64 0,WM 11 0 (some ⟨g,0,none⟩) 1 1,.slice none 0 0] w (TH w):=by
 have a:=((afw w).al rV (FX A n c)).alloc bA (F0 11 0 (some ⟨g,0,none⟩) 1 1);have S1:=a.I8;have t:Bx ((w.alloc (FX A n c)).alloc (F0 11 0 (some ⟨g,0,none⟩) 1 1)) (w.heap.size+1) (Tb 11 0 (some ⟨g,0,none⟩) 1 1):=Bx.new (w.alloc (FX A n c)) _ _ _ bA;have Q:=a.s2;have y:=Bx.CG j;go_enter Tryz.func34,Tryz.ntmps34;go_upto_region 1 with fail;generalize(w.alloc _).alloc _=w1 at*;have s0:=S1.c 0 _ rfl;have s1:=S1.c 1 _ rfl;obtain⟨k,l,m,o,p,q, -⟩:=t.xw;go_wp2_with fail;refine sG (Oa w1 (F.below a) X A n c (C.below a hX) bq g (Bx.below j a y)) fun N i=> ?_
 have D:=a.sY V i;have R:=i.size;clear s0 s1 k l m o p q;obtain⟨k,l,m,o,p,q, -⟩:=(t.below i V).xw;go_wp2_with fail;refine sG (Xa N g (Bx.below j D y)) fun r x=> ?_
 have M:=D.sY V x;have S:=x.size;clear k l m o p q;have v:=i.sY rV x;have s0:=(S1.below v V).c 0 _ rfl;have s1:=(S1.below v V).c 1 _ rfl;have e:=(afw r).al rV (.cells #[.slice A n c,.int .i64 0,.slice none 0 0,.int .i64 0] 154);have B:=e.yg;have L:=e.l1;go_upto_region 6 with fail;generalize r.alloc _=O at*;have z:=M.sY V e;have T:=e.size;obtain⟨k,l,m,o,p,q, -⟩:=(t.below (v.sY rV e) V).xw;have K:=Xd S0 _ _ 1 rfl rfl rfl rfl rfl O X A n c r.heap.size g (C.below z hX) bq (B.c 0 _ rfl) (B.c 2 _ rfl) L (Bx.below j z y);go_wp2_with fail;refine K.mono ?_;rintro e' U ⟨E,d,rfl,I,G⟩;go_wp2_with fail;go_ret2;exact⟨E,d,rfl,I.rd,z.sY V G⟩
def aal(k:uI w)(X:afu)(A:aft)(n c:Nat)(o:tJ w X A n S0)(hX:∀b,X b->b<w.heap.size)(g:Nat)(e:V3 w g):Calls Tryz.prog 11 #[.agg #[.slice A n c,.int .i64 0],.int .i64 0,WM 11 0 (some ⟨g,0,none⟩) 1 1] w (TH w):=by have a:=((afw w).al rV (FX A n c)).alloc bA (F0 11 0 (some ⟨g,0,none⟩) 1 1);have S1:=a.I8;have j:Bx ((w.alloc (FX A n c)).alloc (F0 11 0 (some ⟨g,0,none⟩) 1 1)) (w.heap.size+1) (Tb 11 0 (some ⟨g,0,none⟩) 1 1):=Bx.new (w.alloc (FX A n c)) _ _ _ bA;have m:=Bx.CG e;go_enter Tryz.func11,Tryz.ntmps11;go_upto_region 1 with fail;have q:=a.s2;generalize(w.alloc _).alloc _=w1 at*;have s0:=S1.c 0 _ rfl;have s1:=S1.c 1 _ rfl;obtain⟨r,t,v,x,y,z, -⟩:=j.xw;go_wp2_with fail;refine(ZB w1 (k.below a) X A n c (o.below a hX) bq g (Bx.below e a m)).mono ?_;rintro e' B ⟨i,d,rfl,p,l⟩;go_wp2_with fail;go_ret2;exact⟨i,d,rfl,p,a.sY V l⟩
def Yy:afs:=[123,34,116,121,112,101,34,58,34,97,114,114,97,121,34,44,34,105,116,101,109,115,34,58,34,105,110,116,34,125]
def j0:J:=jO [tC,uW] [jT [97,114,114,97,121],jT [105,110,116]]
set_option maxRecDepth 100000
def ab7:C6 Yy 100000=some (.ok j0):=bm
def adQ:(Lib.compact (yA [tC,uW])).length=2:=by
 have g:(yA [tC,uW]).Perm [tC,uW]:=List.mergeSort_perm _ _;have d:(yA [tC,uW]).Nodup:=g.nodup_iff.2 bH;have e:=Fw [tC,uW];generalize yA [tC,uW]=l at*;match l,e,d with
 | [a,b],_,d=>
  have:a≠b:=by simpa using d
  have i:Lib.keeps #[a,b] 0=true:=Lib.keeps_lt_one _ 0 V;have j:Lib.keeps #[a,b] 1=true:=by simp[Lib.keeps,this,Ak this]
  simp[Lib.compact,Lib.compactUpTo,List.range_succ,List.filter,i,j]
def ace:ue j0 0=true:=by
 have d:Bp j0=true:=by show(if(6:Int)=6 then decide (([tC,uW]:List afs).length=2)&&decide ((Lib.compact (yA [tC,uW])).length=2)&& !([tC,uW].any fun x=> !yX x)else decide (2=0))=true;rw[rG rfl,adQ];kernel_rfl
 have a:Aa j0=true:=bm;have b:C7 [jT [97,114,114,97,121],jT [105,110,116]] 1=true:=bm;show(Aa j0&&Bp j0&& !(decide (32<=0)&&(decide ((6:Int)=5)||decide ((6:Int)=6)))&&C7 [jT [97,114,114,97,121],jT [105,110,116]] 1)=true;rw[a,d,b];rfl
def aby:NR 3000 j0=(0,S0,0):=bm
def wg0:PM S0 0 2=0:=bm
def adj:vK S0=0:=bm
def adO:(AK S0).2.2=false:=bm
def Yd:uZ S0 0=j0:=bm
def adM:zo j0=.ok Yy:=by have h:(if(yB j0 ([],false)).2=true then(.error 3:Except Int afs)else .ok (yB j0 ([],false)).1)=.ok Yy:=bm;unfold zo;rw[rG ace];exact h
def dp0:um j0=1:=bm
def adV:zR S0 0=.ok Yy:=by
 have a:zQ S0 0=0:=by unfold zQ;rw[rG rs0,adO];rfl
 unfold zR;rw[rG a,Yd,dp0,adM];rfl
def adP:SizeOf.sizeOf j0<3000:=by simp[j0,jO,jT,tC,uW];decide
def ab4:FT 3000 Yy=(0,S0):=by
 have a:G4 3000 j0=0:=by unfold G4;rw[rG ace,aby];exact wg0
 have b:EZ 3000 j0=S0:=by unfold EZ;rw[rG a,aby]
 unfold FT;rw[ab7];simp[XY,Qn,a,b,adj]
end
abbrev txa:Array Value:= #[.int .u8 123,.int .u8 34,.int .u8 116,.int .u8 121,.int .u8 112,.int .u8 101,.int .u8 34,.int .u8 58,.int .u8 34,.int .u8 97,.int .u8 114,.int .u8 114,.int .u8 97,.int .u8 121,.int .u8 34,.int .u8 44,.int .u8 34,.int .u8 105,.int .u8 116,.int .u8 101,.int .u8 109,.int .u8 115,.int .u8 34,.int .u8 58,.int .u8 34,.int .u8 105,.int .u8 110,.int .u8 116,.int .u8 34,.int .u8 125]
abbrev txc:Go.Obj:=.cells txa 5 (txa.size,txa.size+1)
def MD(w:World)(C:Array Value)(e:TypeId)(fr:Nat×Nat)(p:Addr):(w.alloc (.cells C e fr)).cell? p=(w.alloc (.cells C e)).cell? p:=by simp only[World.cell?,World.alloc,Array.getElem?_push];by_cases h:p.block=w.heap.size<;>simp[h]
def wf0:yF j0:=.mk bH bH bH bH (fun _=>rfl) (fun x a=>
 by
  rcases sD.1 a with rfl|a;·exact oC
  ·rw[sJ.1 a];exact oC)
def SN(w:World)(o:uI w):Calls Tryz.prog 5 #[] w fun e w'=>e=.returned (.bool true)/\sZ w w':=by
 have A:=(afw w).al rV txc;have D:Rd (w.alloc txc) (w.heap.size+1) (some ⟨w.heap.size,0,none⟩) 30 Yy:=Mem.Rd.keep (w:=w.alloc (.cells txa 5)) (Mem.AH w Yy) (fun p _=>MD w txa _ _ p);have q:=I5 3000 Yy (.ok j0) ab7 wf0 adP (some ⟨w.heap.size,0,none⟩) 30 30 (w.heap.size+1) (w.alloc txc) (o.below A) D bA V V;rw[ab4]at q;have R:=sZ.below A;clear D;have a4:=fun(w:World)(C:Array Value)(n c:Nat)=>Lib.run_convert_bytes_const (P:=Tryz.prog) w 22 5 C n c tP Gb
 go_enter Tryz.func5,Tryz.ntmps5;go_wp2_with fail;refine q.mono ?_;rintro Z i ⟨m,x,v,rfl,r,a3,s2⟩;clear q;have S:=R.trans s2;have z:=(afw i).al rV (FX m x v);have l:=z.yg;go_upto_region 2 with fail;generalize i.alloc _=W at*;have d:=sZ.below z;have K:=S.trans d;have t:=ET S0 0 (by rw[Yd];exact wf0.small) (fun _=>by rw[Yd];exact wf0) (by rw[Yd,dp0];omega) W (fun b=>b<i.heap.size) m x v (r.zd d ug) (fun b hb=>rS hb d.1) V (vy o K) sm0;rw[adV]at t;obtain⟨s0,s1, -⟩:=l.LU;go_wp2_with fail;refine t.mono ?_;rintro a0 a ⟨N,g,a5,rfl,a2,E⟩;clear t s0 s1;have j:=sZ.below N;have T:=K.trans j;have M:=(afw a).al rV (F0 3 3 none 0 0);have y:V3 (a.alloc (F0 3 3 none 0 0)) a.heap.size:=Bx.new a _ _ _ rfl;have k:=sZ.below M;have L:=T.trans k;have B:=aal (a.alloc (F0 3 3 none 0 0)) (vy o L) (fun b=>b<i.heap.size) m x v (r.zd (d.trans (j.trans k)) ug) (fun b hb=>rS hb (d.trans (j.trans k)).1) a.heap.size y;have G:=Rd.zd E k rV;obtain⟨s0,s1, -⟩:=(l.zd j).LU;go_wp2_with fail;refine B.mono ?_;rintro a1 a6 ⟨X,Y,rfl,Q,O⟩;clear B s0 s1;have I:=sZ.below O;have U:=L.trans I;have F:=Rd.zd G I rV;unfold Yy at F;clear E G y l r;go_wp2_with(first|(refine zy rfl rfl F ?_)|(refine zy rfl rfl Q ?_));go_ret;exact⟨rfl,U⟩
section
variable{H:Type}{enc:TypeId×Value->H}{w:World}{sp:Nat->Bool}{held:Bool}
section
variable(q E L:Nat)(cs:List Value){n i:Nat}{t e:TypeId}{k D a b g:Nat}{c:Value}
def Y4:maxLen=9223372036854775807:=bH
def G2{x:DataW H×List MemPlace}(Z:Tryz.prog.underlying t=some (.slice e))(R:Tryz.prog.cellsOf e=k)(L:0<k)(h:DataW.trod enc Tryz.prog w 0 sp held D t [c]=some x):∃(A:aft)(n cap:Nat)(C:List (List Value)),c=.slice A n cap/\n<=cap/\n<=9223372036854775807/\Row w (fun b=>b<w.heap.size) k A n C/\∀(i:Nat)(cs:List Value),C[i]? =some cs->∃(f:Nat)(y:DataW H×List MemPlace),f<D/\DataW.trod enc Tryz.prog w 0 sp held f e cs=some y:=by
 rcases DataW.trod_slice Z h with⟨o, -⟩|⟨a,n,cap,a3,a6,f,rfl,o, -, -,G,O,a4,E, -⟩;·injection o with o;exact⟨none,0,0,[],o,rZ _,V,Row.nil _ _ _ _,fun i cs h=>ic⟩
 ·injection o with o;rw[R]at E;have B:∀i,i<n->∃cs y,w.cells? 0 (a.add (i*k)) k=some cs/\DataW.trod enc Tryz.prog w 0 sp held f e cs=some y:=fun i d=>
   by
    have v:=E i d;rw[rD V]at v;cases l:w.cells? 0 (a.add (i*k)) k with
    |none=>rw[l]at v;cases v
    |some cs=>rw[l]at v;exact⟨cs,_,rfl,v⟩
  have F:∀i cs,((List.range n).map fun i=>(w.cells? 0 (a.add (i*k)) k).getD [])[i]? =some cs->i<n/\w.cells? 0 (a.add (i*k)) k=some cs:=fun i cs d=>
   by
    rw[wg]at d;cases p:(List.range n)[i]? with
    |none=>rw[p]at d;cases d
    |some q=>
     have r:i<n:=by have:=(rQ.1 p).1;exact eV
     have U:q=i:=by rw[List.getElem?_range r]at p;injection p with p;exact p.symm
     subst U;rw[p]at d;obtain⟨K,y,l,_⟩:=B q r;simp only[xm,l,Option.getD_some,sq]at d;rw[<-d];exact⟨r,l⟩
  refine⟨some a,n,cap,(List.range n).map fun i=>(w.cells? 0 (a.add (i*k)) k).getD [],o,G,sn G (sn O (by simp[maxLen])),⟨bA,fun T=> ?_⟩,fun i cs d=> ?_⟩
  ·obtain⟨a2,_,N,_⟩:=B 0 T;obtain⟨_,a5,W⟩:=World.cells?_some N;have z:=W 0 L;rw[rD V]at z;rw[zG]at z;obtain⟨g,a0,a1⟩:=a;have Y:a1=none:=by simpa[Addr.add]using World.cell?_spot z
   subst Y;refine⟨g,a0,rfl,by simpa[Addr.add]using xW _ _ z,fun i cs d=> ?_⟩;obtain⟨r,l⟩:=F i cs d;obtain⟨_,S,X⟩:=World.cells?_some l;refine⟨S,fun j u I=> ?_⟩;have Q:j<k:=by have:=(rQ.1 I).1;omega
   have m:=X j Q;rw[I,yl,yl]at m;rw[<-m];congr 2;omega
  ·obtain⟨r,l⟩:=F i cs d;obtain⟨K,y,m,M⟩:=B i r;rw[l]at m;injection m with m;subst m;exact⟨f,y,xU _,M⟩
def Js{e:Type}{P:List Value->e->Prop}:∀(a:List (List Value)),(∀(i:Nat)(cs:List Value),a[i]? =some cs->∃v,P cs v)->∃l:List e,a.length=l.length/\∀(i:Nat)(h:i<a.length)(d:i<l.length),P a[i] l[i]
 | [],_=>⟨[],rfl,fun i h=>absurd h bA⟩
 |cs::r,h=>
 by
  obtain⟨v,j⟩:=h 0 cs rfl;obtain⟨l,g,b⟩:=Js r (fun i c b=>h (i+1) c (by simpa using b));refine⟨v::l,by simp[g],fun i h d=> ?_⟩;cases i with
  |zero=>exact j
  |succ i=>exact b i eK (by simpa using d)
def Iv{c k:Nat}{cs:List Value}{xs:List (DataW H×List MemPlace)}(h:DataW.trod enc Tryz.prog w 0 sp held n t ((cs.drop a).take (Tryz.prog.cellsOf t))=xs[i]?)(e:xs.length=k)(d:i<k)(b:Tryz.prog.cellsOf t=c):∃y,DataW.trod enc Tryz.prog w 0 sp held n t ((cs.drop a).take c)=some y:=by rw[b,rD V]at h;exact⟨_,h⟩
def DJ(d:Tryz.prog.underlying t=some (.int .i64)){b:Nat}{c:Value}{x:DataW H×List MemPlace}(h:DataW.trod enc Tryz.prog w 0 sp held b t [c]=some x):∃m:Int,c=.int .i64 m/\ -9223372036854775808<=m/\m<=9223372036854775807:=by obtain⟨m,a,_,e⟩:=DataW.trod_int d h;injection a with a;exact⟨m,a,Fits.i64 e⟩
def PK{x:DataW H×List MemPlace}(h:DataW.trod enc Tryz.prog w 0 sp held b 4 [c]=some x):∃m:Bool,c=.bool m:=by obtain⟨m,a,_⟩:=DataW.trod_bool TJ h;injection a with a;exact⟨m,a⟩
def Kg{x:DataW H×List MemPlace}(h:DataW.trod enc Tryz.prog w 0 sp held b 9 [c]=some x):∃t:afs,c=.string ⟨t.toArray⟩/\t.length<=9223372036854775807:=by obtain⟨s,a,_,d⟩:=QK xV h;injection a with a;exact⟨s.data.toList,by rw[a],sn (zD Array.length_toList) (Y4▸d)⟩
def Gp{x:DataW H×List MemPlace}(h:DataW.trod enc Tryz.prog w 0 sp held g 25 [c]=some x):∃(A:aft)(n cap:Nat)(ks:List afs),c=.slice A n cap/\n<=cap/\n<=9223372036854775807/\Row w (fun b=>b<w.heap.size) 1 A n (uL ks)/\∀a∈ks,a.length<=9223372036854775807:=by
 obtain⟨A,n,cap,d,h1,h2,h3,h4,j⟩:=G2 (e:=9) (k:=1) ub bm V h;obtain⟨ks,m,hi⟩:=Js (P:=fun cs(t:afs)=>cs=[sv t]/\t.length<=9223372036854775807) d (fun i cs hi=>by obtain⟨f,y,_,p⟩:=j i cs hi;obtain⟨s,l,_,o⟩:=QK xV p;exact⟨s.data.toList,by rw[l];rfl,sn (zD Array.length_toList) (Y4▸o)⟩);have e:d=uL ks:=by apply wH (by simp[uL,m]);intro i h q;rw[(hi i h V).1];simp[uL]
 exact nZ
def WZ{x:DataW H×List MemPlace}(h:DataW.trod enc Tryz.prog w 0 sp held g 77 [c]=some x):∃(A:aft)(n cap:Nat)(ks:List Int),c=.slice A n cap/\n<=cap/\n<=9223372036854775807/\Row w (fun b=>b<w.heap.size) 1 A n (xZ ks)/\∀a∈ks, -9223372036854775808<=a/\a<=9223372036854775807:=by
 obtain⟨A,n,cap,d,h1,h2,h3,h4,j⟩:=G2 (e:=3) (k:=1) ud bm V h;obtain⟨ks,o,hi⟩:=Js (P:=fun cs(m:Int)=>cs=[Value.int .i64 m]/\ -9223372036854775808<=m/\m<=9223372036854775807) d (fun i cs hi=>by obtain⟨f,y,_,q⟩:=j i cs hi;obtain⟨m,l,_,p⟩:=DataW.trod_int vJ q;have hb:=Fits.i64 p;exact⟨m,l,V,V⟩);have e:d=xZ ks:=by apply wH (by simp[xZ,o]);intro i h r;rw[(hi i h V).1];simp[xZ]
 exact nZ
def adf:∀(N a:Nat),a<=N->∀(cs:List Value)(x:DataW H×List MemPlace),DataW.trod enc Tryz.prog w 0 sp held a 60 cs=some x->∃v,Np w (fun b=>b<w.heap.size) cs v:=by
 intro N;induction N with
 |zero=>intro a D cs x h;obtain rfl:a=0:=V;simp[DataW.trod]at h
 |succ N K=>
  intro a D cs x h;obtain⟨xs,n,rfl, -,j,g,d⟩:=EG Tryz.underlying60 h;rw[show Tryz.prog.cellsOf 60=5 from bm]at j;match cs,j with
  | [c0,c1,c2,c3,c4],_=>obtain⟨a6,r⟩:=Iv (c:=1) (d 0 _ rfl) g bH bm;obtain⟨a7,t⟩:=Iv (c:=1) (d 1 _ rfl) g bH bm;obtain⟨a8,z⟩:=Iv (c:=1) (d 2 _ rfl) g bH bm;obtain⟨a9,A⟩:=Iv (c:=1) (d 3 _ rfl) g bH bm;obtain⟨aa,B⟩:=Iv (c:=1) (d 4 _ rfl) g bH bm;obtain⟨O,rfl,a0⟩:=DJ vJ r;obtain⟨Q,rfl,l⟩:=DJ Tryz.underlying2 t;obtain⟨W,rfl,m⟩:=Kg z;obtain⟨Y,a2,a4,q,rfl,R,o,T,C⟩:=G2 (e:=60) (k:=5) tQ bm V A;obtain⟨L,G,F⟩:=Js q (fun i cs E=>by obtain⟨f,y,a1,I⟩:=C i cs E;exact K f V cs y I);obtain⟨Z,a3,a5,M,rfl,S,p,U,X⟩:=Gp B;exact⟨.mk O Q W L M,.mk T G F U R S o p m X l⟩
def ade(x:DataW H×List MemPlace)(h:DataW.trod enc Tryz.prog w 0 sp held E 82 cs=some x):∃v,Tw w (fun b=>b<w.heap.size) cs v:=by
 obtain⟨xs,n,rfl, -,o,e,a⟩:=EG Tryz.underlying82 h;rw[show Tryz.prog.cellsOf 82=9 from bm]at o;match cs,o with
 | [c0,c1,c2,c3,c4,c5,c6,c7,c8],_=>obtain⟨T,y⟩:=Iv (c:=1) (a 0 _ rfl) e bH bm;obtain⟨U,z⟩:=Iv (c:=1) (a 1 _ rfl) e bH bm;obtain⟨W,A⟩:=Iv (c:=1) (a 2 _ rfl) e bH bm;obtain⟨X,C⟩:=Iv (c:=1) (a 3 _ rfl) e bH bm;obtain⟨Y,D⟩:=Iv (c:=5) (a 4 _ rfl) e bH bm;obtain⟨L,rfl,p⟩:=Kg y;obtain⟨N,R,S,l1,rfl,I,q,K,M⟩:=Gp z;obtain⟨F,rfl,r⟩:=DJ vJ A;obtain⟨G,rfl⟩:=PK C;obtain⟨j,l⟩:=adf n n rV [c4,c5,c6,c7,c8] _ D;obtain⟨k,i,t,B,m,d,B',Q,O,g⟩:=l.form;simp only[jv,List.cons.injEq,and_true]at g;obtain⟨rfl,rfl,rfl,rfl,rfl⟩:=g;exact⟨_,Tw.mk (f:=⟨L,l1,F,G,j⟩) K I q M p r l⟩
def adg(x:DataW H×List MemPlace)(h:DataW.trod enc Tryz.prog w 0 sp held L 79 cs=some x):∃v,Tx w (fun b=>b<w.heap.size) cs v:=by
 obtain⟨xs,n,rfl, -,g,d,a⟩:=EG Tryz.underlying79 h;rw[show Tryz.prog.cellsOf 79=10 from bm]at g;match cs,g with
 | [c0,c1,c2,c3,c4,c5,c6,c7,c8,c9],_=>obtain⟨be,z⟩:=Iv (c:=1) (a 0 _ rfl) d bH bm;obtain⟨bj,A⟩:=Iv (c:=1) (a 1 _ rfl) d bH bm;obtain⟨bk,B⟩:=Iv (c:=1) (a 2 _ rfl) d bH bm;obtain⟨bn,C⟩:=Iv (c:=1) (a 3 _ rfl) d bH bm;obtain⟨bp,D⟩:=Iv (c:=1) (a 4 _ rfl) d bH bm;obtain⟨br,E⟩:=Iv (c:=1) (a 5 _ rfl) d bH bm;obtain⟨bs,F⟩:=Iv (c:=1) (a 6 _ rfl) d bH bm;obtain⟨bv,G⟩:=Iv (c:=1) (a 7 _ rfl) d bH bm;obtain⟨bw,I⟩:=Iv (c:=1) (a 8 _ rfl) d bH bm;obtain⟨bx,K⟩:=Iv (c:=1) (a 9 _ rfl) d bH bm;obtain⟨X,rfl,b0⟩:=DJ vJ z;obtain⟨a9,rfl,j⟩:=Kg A;obtain⟨an,b3,b7,S,rfl,a1,l,a5,ab⟩:=Gp B;obtain⟨ar,b4,b8,t,rfl,a2,m,a6,M⟩:=G2 (e:=82) (k:=9) EJ bm V C;obtain⟨T,Q,O⟩:=Js t (fun i cs N=>by obtain⟨f,y,b2,R⟩:=M i cs N;exact ade f cs y R);obtain⟨az,b5,b9,U,rfl,a3,o,a7,ad⟩:=Gp D;obtain⟨Y,rfl⟩:=PK E;obtain⟨aa,rfl,p⟩:=Kg F;obtain⟨Z,rfl,b1⟩:=DJ vJ G;obtain⟨a0,rfl,q⟩:=DJ vJ I;obtain⟨aU,b6,bd,W,rfl,a4,r,a8,af⟩:=WZ K;exact⟨_,Tx.mk (x:=⟨X,a9,S,T,U,Y,aa,Z,a0,W⟩) a5 ⟨_,a6,Q,O⟩ a7 a8 ⟨⟨a1,a2⟩,a3,a4⟩ ⟨⟨l,m⟩,o,r⟩ ⟨j,p⟩ ⟨ab,ad⟩ q af⟩
def abz(x:DataW H×List MemPlace)(h:DataW.trod enc Tryz.prog w 0 sp held q 32 cs=some x):∃(A:aft)(n c:Nat)(root:Int)(S:List Nd),cs=[.slice A n c,.int .i64 root]/\CQ w (fun b=>b<w.heap.size) A n S/\n<=9223372036854775807:=by
 obtain⟨xs,n,rfl, -,d,g,a⟩:=EG Q0 h;rw[show Tryz.prog.cellsOf 32=2 from bm]at d;match cs,d with
 | [c0,c1],_=>obtain⟨M,o⟩:=Iv (c:=1) (a 0 _ rfl) g bH bm;obtain⟨N,p⟩:=Iv (c:=1) (a 1 _ rfl) g bH bm;obtain⟨j,E,F,m,rfl,L,l,G,r⟩:=G2 (e:=79) (k:=10) EI bm V o;obtain⟨C,z,v⟩:=Js m (fun i cs t=>by obtain⟨f,y,K,B⟩:=r i cs t;exact adg f cs y B);obtain⟨D,rfl,I⟩:=DJ vJ p;exact⟨j,E,F,D,C,rfl,⟨_,G,z,v⟩,l⟩
end
end
