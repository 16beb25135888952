import Derived.Test.YtccjlcadbpinfaaGreatDoorX22
set_option linter.all false
namespace Go.Proofs.YtccjlcadbpinfaaGreatDoor.Tp
open ChangeShapes WideShapes ChangeAt RowKit
open Num Mem Can
section
variable{f:Fd}{l:List Fd}(F:Nat){j:J}{S:List Nd}{a R:Nat}{x:Nd}{m:List Bool}
def take_split(hx:S[a]? =some x)(h:a+1<=R):(S.take R).drop a=x::(S.take R).drop (a+1):=by have b:a<S.length:=(rK.1 hx).1;exact eW
def LD(hx:S[a]? =some x):sW S (a+1)=sW S a++[sQ x]:=by unfold sW;exact j9
def DS(ok:KZ S){a:Nat}(d:a<S.length)(n:Nd):vJ n (sW S a) 0=((a:Int),[n],0):=by have b:=DY S (Gk d);have g:=ok.le;have e:decide (200<=(sW S a).length)=false:=rF (by rw[b];omega);unfold vJ;rw[e,tH,rv rfl,b]
def take_one(b:S[a]? =some x):(S.take (a+1)).drop a=[x]:=by rw[take_split b rT,Jo.2 (by simp;omega)]
def getD_some{x:J}{k:acM}(h:tZ j k=some x):getD j k=x/\has j k=true:=by unfold getD has;rw[h];exact bH
def getD_none{k:acM}(h:tZ j k=none):getD j k=J.zero/\has j k=false:=by unfold getD has;rw[h];exact bH
def AK{k t:acM}(h:tZ j k=some (jT t)):xf j k 0=(t,0):=by obtain⟨a,b⟩:=getD_some h;unfold xf;rw[a,b];rfl
def CU(ks:List acM)(l:List J)(ar:acM)(a:List Hd):tN (F+1) (jO ks l) ar a 0=xJ (tN F) (jO ks l) ar a 0:=rfl
def IW(ok:KZ S){d:Nat->Sh->J×Sh}{ar:acM}{a R F:Nat}{x:Nd}{m:List Bool}(g:S[a]? =some x)(b:x.kind=11\/x.kind=12)(l:Iv S d ar x.items (a+1) R)(G:Met S (a+1) m)(K:(d x.items.toNat (m,false)).2.2=false)(o:SizeOf.sizeOf (jO [tp,if x.kind=12 then wS else uO] [jT (tu x.kind),(d x.items.toNat (m,false)).1])<F):Met S R (d x.items.toNat (m,false)).2.1/\tN F (jO [tp,if x.kind=12 then wS else uO] [jT (tu x.kind),(d x.items.toNat (m,false)).1]) ar (sW S a) 0=((a:Int),(S.take R).drop a,0):=by
 have z:a<S.length:=(rK.1 g).1;have q:=P7 (ok.node x (rL g)) b;obtain⟨F,rfl⟩:∃r,F=r+1:=⟨F-1,V⟩;obtain⟨E,L,l⟩:=l;obtain⟨y,k⟩:=l m G K;have k:=k F (by unfold jO at o;simp only[J.mk.sizeOf_spec,List.cons.sizeOf_spec]at o;omega);refine⟨y,?_⟩;have n:=DY S (Gk z);have E:=ok.le;have A:decide (200<=(sW S a).length)=false:=rF (by rw[n];omega);generalize(d x.items.toNat (m,false)).1=i at*;have H:=take_split g (by omega:a+1<=R);have C:sQ x=(x.kind,[]):=by rw[q];rfl
 have p:=LD g;rw[C]at p;have I:xf (jO [tp,if x.kind=12 then wS else uO] [jT (tu x.kind),i]) tp 0=(tu x.kind,0):=AK jI;have D:(wg (tu x.kind):Int)=x.kind:=Bo x.kind V V V;rw[CU];unfold xJ;simp only[I,uw,D];have e:∀key,tZ (jO [tp,if x.kind=12 then wS else uO] [jT (tu x.kind),i]) key=some i->Cd (fun j=>tN F j ar) (jO [tp,if x.kind=12 then wS else uO] [jT (tu x.kind),i]) x.kind key (sW S a) 0=((a:Int),(S.take R).drop a,0):=by intro key B;obtain⟨t,v⟩:=getD_some B;unfold Cd;rw[v,tl,tH,A,tH,rv rfl,t,<-p];simp only[k,n,H];rw[<-q]
 rcases b with b|b;·rw[rv b];rw[b]at e|-;exact e uO jI
 ·rw[ru V,rv b];rw[b]at e|-;exact e wS jI
def JF{a:Type}(p:a->Bool)(c:Int):∀(l:List a)(e:Int),(∀x∈l,p x=false)->l.foldl (fun e i=>sq (p i) c e) e=e
 | [],_,_=>rfl
 |x::r,e,h=>by rw[List.foldl_cons,h x bi,tH];exact JF p c r e (fun y b=>h y (by simp[b]))
def Ms(l:List acM)(h:l.length<=40):xR (Cm l) 0=(l,0):=by
 unfold xR Cm jL;show(((l.map jT).map J.text,sq (decide (40<(l.map jT).length)) 3 ((l.map jT).foldl (fun e i=>sq (!decide (i.kind=4)) 30 e) (sq (!decide ((5:Int)=5)) 30 0))):List acM×Int)=_;have a:(l.map jT).map J.text=l:=by rw[Gi];exact(KV (fun x _=>rfl)).trans (UZ l)
 rw[a,JF (fun i=> !decide (i.kind=4)) 30 (l.map jT) _ (by intro x b;obtain⟨t,_,rfl⟩:=sR.1 b;rfl),sD,rF (show¬40<l.length from V),tH];rfl
def Gu(full:acM->acM×Bool)(j:J)(l:List acM)(i:l.length<=40)(g:∀a∈l,full a=(a,true))(h:tZ j tg=if tq l=true then some (Cm l)else none):xd full j 0=(l,0):=by
 unfold xd;cases l with
 |nil=>obtain⟨e,b⟩:=getD_none (j:=j) (k:=tg) (by rw[h];rfl);rw[b];rfl
 |cons a r=>obtain⟨e,b⟩:=getD_some (j:=j) (k:=tg) (by rw[h];rfl);rw[b,rv rfl,e,Ms _ i];simp only;rw[JF (fun s=> !(full s).2) 31 (a::r) 0 (fun x d=>by rw[g x d];rfl)];congr 1;exact(KV (fun x d=>by rw[g x d];rfl)).trans (UZ _)
def EH(ok:KZ S){a:Nat}{x:Nd}(j:S[a]? =some x)(i:sf x.kind=true)(e:xW x=false)(ar:acM)(ks:List acM)(l:List J)(o:tZ (jO ks l) vw=some (jT (xk x.name)))(g:tZ (jO ks l) uV=some (jT (sE x.name)))(p:tZ (jO ks l) tg=if tq x.aliases=true then some (Cm x.aliases)else none):zi (jO ks l) x.kind ar (sW S a) 0=({Cn with kind:=x.kind,name:=x.name,aliases:=x.aliases},0):=by
 have d:=zN (ok.node x (rL j)) i;have n:=Qm ok j i (a:=a) rT;obtain⟨_,k⟩:=getD_some g;have q:yz (xk x.name) (sE x.name) true ar=some x.name:=by show(if true=true then vv (sE x.name) (xk x.name)else _)=_;rw[rv rfl,QJ d.name]
 have m:=Gu (fun s=>Fi (vv (sE x.name) s)) (jO ks l) x.aliases d.many (fun b hb=>
  by
   unfold Fi;rw[join_self (d.alias b hb) (by
    unfold xW at e;rw[List.any_eq_false]at e;have:=e b hb;unfold tq at this;simp at this;by_cases h:sE x.name=[];·exact .inl h
    ·exact .inr (this h))]
   rfl) p
 unfold zi;simp only[AK o,k,uw,AK g,q,FV,Option.getD_some,Dr,tl,tU,d.kind,xK,tH,n];have:decide ((0:Int)<= -1)=false:=bD;rw[this,tH,m]
def Bp(h:S[a]? =some x)(b:Met S a m):Met S (a+1) (m.set a true):=by
 have e:a<S.length:=(rK.1 h).1;refine⟨by rw[sT];exact b.len,fun i y j g=> ?_⟩;rw[yG];by_cases d:a=i;·subst d;rw[rv rfl,rv (by rw[b.len];exact e)];simp
 ·rw[ru d,b.iff i y j g];omega
def x6(j:S[a]? =some x)(h:sf x.kind=false)(e:Met S a m):Met S (a+1) m:=by
 refine⟨e.len,fun i y b d=> ?_⟩;rw[e.iff i y b d];by_cases g:a=i;·subst g;rw[j]at b;injection b with b;subst b;rw[h]at d;cases d
 ·omega
def CY{p:acM->Bool}{all:List acM}:∀(l:List acM)(j:Nat),all.drop j=l->DP p all j l=true->∀i s,l[i]? =some s->p s=true/\(all.take (j+i)).contains s=false
 | [],j,_,_,i,s,h=>fW
 |x::r,j,b,h,i,s,a=>
 by
  simp only[DP,rG,wV]at h;cases i with
  |zero=>simp at a;subst a;exact h.1
  |succ i=>have:=CY (p:=p) (all:=all) r (j+1) (by rw[<-AN,b];rfl) h.2 i s (by simpa using a);rw[show j+(i+1)=j+1+i from V];exact this
def Sv(all:List acM):∀(l:List acM)(j:Nat),all.drop j=l->DP wa all j l=true->Xv all j l 0=0
 | [],j,_,_=>rfl
 |x::r,j,a,h=>by have:=CY (x::r) j a h 0 x rfl;simp only[DP,rG,wV]at h;unfold Xv;rw[h.1.1,h.1.2,tl,tH,tH];exact Sv all r (j+1) (by rw[<-AN,a];rfl) h.2
def Ja(h:Br j J.zero=true):j=J.zero:=by
 obtain⟨k,i,t,l,ks⟩:=j;unfold J.zero at*;cases l with
 |nil=>simp[Br,AJ]at h;simp[h]
 |cons x r=>simp[Br,AJ]at h
def Xf(hn:sf x.kind=true):1<=x.kind/\x.kind<=14/\x.kind≠13/\¬x.kind=11/\¬x.kind=12/\¬x.kind<=8:=fx
def Qk(ok:KZ S){ar:acM}{a F:Nat}{x:Nd}(i:S[a]? =some x)(d:x.kind=10)(G:xW x=false):tN (F+1) (jO (BL x++[ub]++opt x.has sF) (Au x++[Cm x.symbols]++opt x.has (jT x.sO))) ar (sW S a) 0=((a:Int),(S.take (a+1)).drop a,0):=by
 have n:a<S.length:=(rK.1 i).1;have E:sf x.kind=true:=by rw[d];rfl
 obtain⟨m,k⟩:=Iz (ok.node x (rL i)) d;rw[take_one i,CU];unfold II at m;simp only[rG,rQ,wN]at m;obtain⟨⟨o,e⟩,H,A,B⟩:=m;have hlen:(BL x++[ub]++opt x.has sF).length=(Au x++[Cm x.symbols]++opt x.has (jT x.sO)).length:=oh;have q:tZ (jO (BL x++[ub]++opt x.has sF) (Au x++[Cm x.symbols]++opt x.has (jT x.sO))) tp=some (jT (tu x.kind)):=cR;have r:tZ (jO (BL x++[ub]++opt x.has sF) (Au x++[Cm x.symbols]++opt x.has (jT x.sO))) vw=some (jT (xk x.name)):=cR;have t:tZ (jO (BL x++[ub]++opt x.has sF) (Au x++[Cm x.symbols]++opt x.has (jT x.sO))) uV=some (jT (sE x.name)):=cR;have v:tZ (jO (BL x++[ub]++opt x.has sF) (Au x++[Cm x.symbols]++opt x.has (jT x.sO))) tg=if tq x.aliases=true then some (Cm x.aliases)else none:=dV;have z:tZ (jO (BL x++[ub]++opt x.has sF) (Au x++[Cm x.symbols]++opt x.has (jT x.sO))) ub=some (Cm x.symbols):=dV;have b:tZ (jO (BL x++[ub]++opt x.has sF) (Au x++[Cm x.symbols]++opt x.has (jT x.sO))) sF=if x.has=true then some (jT x.sO)else none:=dV;have C:=EH ok i E G ar _ _ r t v;generalize jO (BL x++[ub]++opt x.has sF) (Au x++[Cm x.symbols]++opt x.has (jT x.sO))=j at*;have D:(wg (tu x.kind):Int)=x.kind:=Bo x.kind V V V;unfold xJ;simp only[AK q,uw,D];rw[ru V,ru V,ru V,rv d,C];obtain⟨p,_⟩:=getD_some z;unfold Fc;rw[p,Ms _ A];simp only[rF (show¬x.symbols.length=0 from V),tH,Sv x.symbols x.symbols 0 rfl B];cases g:x.has with
 |true=>rw[g]at b o;obtain⟨_,l⟩:=getD_some (b.trans (rv rfl));rw[l,rv rfl,AK (b.trans (rv rfl))];simp only;rw[<-o,tl,tH,DS ok n];rw[g]at k;rw[d,<-k]
 |false=>rw[g]at b e;obtain⟨_,l⟩:=getD_none (b.trans (ru bi));have e:x.sO=[]:=e.resolve_left bi;rw[l,ru bi,DS ok n];rw[g,e]at k;rw[d];exact vy (fun y=>((a:Int),[y],(0:Int))) k.symm
def Nu(ok:KZ S){ar:acM}{a F:Nat}{x:Nd}(d:S[a]? =some x)(b:x.kind=14)(r:xW x=false):tN (F+1) (jO (BL x++[xF]) (Au x++[jN x.size])) ar (sW S a) 0=((a:Int),(S.take (a+1)).drop a,0):=by
 have n:a<S.length:=(rK.1 d).1;have q:sf x.kind=true:=by rw[b];rfl
 obtain⟨v,t⟩:=GA (ok.node x (rL d)) b;rw[take_one d,CU];have hlen:(BL x++[xF]).length=(Au x++[jN x.size]).length:=dx;have g:tZ (jO (BL x++[xF]) (Au x++[jN x.size])) tp=some (jT (tu x.kind)):=cR;have i:tZ (jO (BL x++[xF]) (Au x++[jN x.size])) vw=some (jT (xk x.name)):=cR;have k:tZ (jO (BL x++[xF]) (Au x++[jN x.size])) uV=some (jT (sE x.name)):=cR;have l:tZ (jO (BL x++[xF]) (Au x++[jN x.size])) tg=if tq x.aliases=true then some (Cm x.aliases)else none:=dq;have m:tZ (jO (BL x++[xF]) (Au x++[jN x.size])) xF=some (jN x.size):=dq;have o:=EH ok d q r ar _ _ i k l;generalize jO (BL x++[xF]) (Au x++[jN x.size])=j at*;have p:(wg (tu x.kind):Int)=x.kind:=Bo x.kind V V V;unfold xJ;simp only[AK g,uw,p];rw[ru V,ru V,ru V,ru V,rv b,o];obtain⟨e,_⟩:=getD_some m;unfold Gv;rw[e];show vJ _ _ (sq (decide (x.size<0)||decide (1000<x.size)) 3 (sq (!decide ((3:Int)=3)) 30 0))=_;rw[rF (show¬x.size<0 from V),rF (show¬1000<x.size from V),zK,tH,rP rfl,tl,tH,DS ok n];show((a:Int),[{Cn with kind:=x.kind,name:=x.name,aliases:=x.aliases,size:=x.size}],(0:Int))=_;rw[b,<-t]
def Ns(h:CB f=true)(q:wa f.name=true)(p:l.any (fun r=>decide (r.name=f.name))=false)(o:j.kind=6)(k:tZ j vw=some (jT f.name))(m:tZ j tg=if tq f.aliases=true then some (Cm f.aliases)else none)(a:tZ j sF=if f.has=true then some f.sO else none):Ds j l 0=({f with type:=0},0):=by
 unfold CB Ie at h;simp only[rG,rQ,vY]at h;have n:=Gu (fun s=>(s,wa s)) j f.aliases h.1.1 (fun b hb=>by rw[h.1.2 b hb]) m;unfold Ds;rw[o,rP rfl,tl,tH,AK k];simp only[q,p,tl,tH,n];have i:=h.2;cases d:f.has with
 |true=>rw[d]at a;obtain⟨e,g⟩:=getD_some (a.trans (rv rfl));rw[e,g,<-d]
 |false=>rw[d]at a i;obtain⟨e,g⟩:=getD_none (a.trans (ru bi));rw[ru bi]at i;rw[e,g,<-Ja i,<-d]
def Mb{b:Nat->Sh->J×Sh}{ar:acM}(X:KX b)(all:List Fd)(a F:Nat)(a0:∀f∈all,CB f=true)(M:Cg wa (all.map (·.name))=true):∀(d:List Fd)(e R j:Nat)(m:List Bool),Cw S b ar (d.map (·.type)) e R->a<e->Met S e m->(v7 b d (m,false)).2.2=false->SizeOf.sizeOf (v7 b d (m,false)).1<F+1->all.drop j=d->Met S R (v7 b d (m,false)).2.1/\Lg (fun j=>tN F j ar) (sW S (a+1)) (v7 b d (m,false)).1 (all.take j) ((S.take e).drop (a+1)) 0=(((sW S (a+1)).length:Int)-1,all,(S.take R).drop (a+1),0):=by
 intro d;induction d with
 |nil=>intro e R j m n K o i q hd;cases n;refine⟨o,?_⟩;have:all.take j=all:=jR;simp only[v7,Lg,this]
 |cons f d a4=>
  intro e R j m n K o i q hd;cases n with
  |cons g U=>
   rename_i z;have g:Iv S b ar f.type e z:=g;obtain⟨W,a5,g⟩:=g;have a3:=ET X d _ i;have y:(b f.type.toNat (m,false)).2.2=false:=a3;obtain⟨Y,hb⟩:=g m o y;have O:=L6 _ y;have a1:(v7 b (f::d) (m,false))=((H7 b f (m,false)).1::(v7 b d ((b f.type.toNat (m,false)).2.1,false)).1,(v7 b d ((b f.type.toNat (m,false)).2.1,false)).2):=by show((H7 b f (m,false)).1::(v7 b d (b f.type.toNat (m,false)).2).1,(v7 b d (b f.type.toNat (m,false)).2).2)=_;rw[O]
   rw[a1]at i q|-;simp only[List.cons.sizeOf_spec]at i q|-;have a6:SizeOf.sizeOf (b f.type.toNat (m,false)).1<SizeOf.sizeOf (H7 b f (m,false)).1:=by unfold H7 jO;simp only[J.mk.sizeOf_spec];have:SizeOf.sizeOf (b f.type.toNat (m,false)).1<SizeOf.sizeOf ([jT f.name,(b f.type.toNat (m,false)).1]++opt (tq f.aliases) (Cm f.aliases)++opt f.has f.sO):=Mk bi;omega
   have hb:=hb F V;have Cl:j<all.length:=ge;have v:=rH Cl;rw[hd]at v;injection v with hk1 hk2;have a2:all.take (j+1)=all.take j++[f]:=jm;have T:sW S (a+1)++((S.take e).drop (a+1)).map sQ=sW S e:=DX S V;obtain⟨H,I⟩:=a4 z R (j+1) _ U V Y i V hk2.symm;refine⟨H,?_⟩;have k:=CY (p:=wa) (all:=all.map fun x:Fd=>x.name) (all.map fun x:Fd=>x.name) 0 rfl M j f.name (by rw[tz,ry Cl,<-hk1];rfl);rw[sY]at k;have L:(all.take j).any (fun r=>decide (r.name=f.name))=false:=by rw[List.any_eq_false];intro r Z N;have t:=k.2;rw[<-By,yf]at t;apply t;rw[<-List.map_take];exact sR.2 ⟨r,Z,by simpa using N⟩
   have hlen:([vw,tp]++opt (tq f.aliases) tg++opt f.has sF).length=([jT f.name,(b f.type.toNat (m,false)).1]++opt (tq f.aliases) (Cm f.aliases)++opt f.has f.sO).length:=gE;have C:tZ (H7 b f (m,false)).1 vw=some (jT f.name):=by unfold H7;exact cR
   have D:tZ (H7 b f (m,false)).1 tp=some (b f.type.toNat (m,false)).1:=by unfold H7;exact cR
   have E:tZ (H7 b f (m,false)).1 tg=if tq f.aliases=true then some (Cm f.aliases)else none:=oG;have G:tZ (H7 b f (m,false)).1 sF=if f.has=true then some f.sO else none:=oG;have Q:=Ns (l:=all.take j) (a0 f (by rw[hk1];exact rY Cl)) k.1 L rfl C E G;obtain⟨A,B⟩:=getD_some D;unfold Lg;rw[rv rfl,Q];simp only[B,tl,tH,uw,A,T,hb,EE S (show a+1<=e from V) W];rw[<-a2];exact I
def Fm(ok:KZ S){b:Nat->Sh->J×Sh}{ar:acM}(O:KX b){a R F:Nat}{x:Nd}{m:List Bool}(d:S[a]? =some x)(i:x.kind=9)(Z:xW x=false)(q:Cw S b (sE x.name) (x.fields.map (·.type)) (a+1) R)(Q:Met S (a+1) m)(Y:(v7 b x.fields (m,false)).2.2=false)(l:SizeOf.sizeOf (jO (BL x++[ug]) (Au x++[jL (v7 b x.fields (m,false)).1]))<F):Met S R (v7 b x.fields (m,false)).2.1/\tN F (jO (BL x++[ug]) (Au x++[jL (v7 b x.fields (m,false)).1])) ar (sW S a) 0=((a:Int),(S.take R).drop a,0):=by
 have p:a<S.length:=(rK.1 d).1;have T:sf x.kind=true:=by rw[i];rfl
 obtain⟨n,a0⟩:=Cx (ok.node x (rL d)) i;obtain⟨F,rfl⟩:∃r,F=r+1:=⟨F-1,V⟩;unfold yo at n;simp only[rG,rQ,vY]at n;obtain⟨G,a4,D⟩:=n;have E:(S.take (a+1)).drop (a+1)=[]:=iD;have N:∀(e:List Fd)(st:Sh),(v7 b e st).1.length=e.length:=by
  intro e;induction e with
  |nil=>intro st;rfl
  |cons k ks a3=>intro st;simp only[v7,rM,a3]
 have X:SizeOf.sizeOf (v7 b x.fields (m,false)).1<F+1:=by have g:SizeOf.sizeOf (jL (v7 b x.fields (m,false)).1)<SizeOf.sizeOf (Au x++[jL (v7 b x.fields (m,false)).1]):=Mk bi;unfold jO at l;unfold jL at g l;simp only[J.mk.sizeOf_spec]at l g;omega
 obtain⟨g,o⟩:=Mb O x.fields a F G D x.fields (a+1) R 0 m q V Q Y X rfl;refine⟨g,?_⟩;rw[List.take_zero,E]at o;have M:=N x.fields (m,false);generalize(v7 b x.fields (m,false)).1=L at*;have hlen:(BL x++[ug]).length=(Au x++[jL L]).length:=dx;have v:tZ (jO (BL x++[ug]) (Au x++[jL L])) tp=some (jT (tu x.kind)):=cR;have y:tZ (jO (BL x++[ug]) (Au x++[jL L])) vw=some (jT (xk x.name)):=cR;have z:tZ (jO (BL x++[ug]) (Au x++[jL L])) uV=some (jT (sE x.name)):=cR;have A:tZ (jO (BL x++[ug]) (Au x++[jL L])) tg=if tq x.aliases=true then some (Cm x.aliases)else none:=dq;have B:tZ (jO (BL x++[ug]) (Au x++[jL L])) ug=some (jL L):=dq;have H:=EH ok d T Z ar _ _ y z A;rw[CU];clear l;generalize jO (BL x++[ug]) (Au x++[jL L])=j at*;have I:(wg (tu x.kind):Int)=x.kind:=Bo x.kind V V V;unfold xJ;simp only[AK v,uw,I];rw[ru V,ru V,rv i,H];obtain⟨t,_⟩:=getD_some B;have K:=DY S (Gk p);have a5:=ok.le;have C:decide (200<=(sW S a).length)=false:=rF (by rw[K];omega);unfold zM;have a1:(jL L).items=L:=rfl;have a2:(jL L).kind=5:=rfl;rw[t,a1,a2,C,tH,rP rfl,tl,tH,M,rF (show¬40<x.fields.length from V),tH];have U:=LD d;have W:sW S a++[sQ {Cn with kind:=x.kind,name:=x.name,aliases:=x.aliases}]=sW S (a+1):=U.symm;simp only[uw,W,o];rw[take_split d q.le,DY S p];have:(((a+1:Nat):Int)-1)=a:=V;rw[this,i,<-a0]
def Rf(ok:KZ S):∀(f a b:Nat),wU S f a=some b->∀(F:Nat)(ar:acM),F=f+1->Iv S (x8 S F ar) ar (a:Int) a b:=by
 intro f;induction f with
 |zero=>intro a b h;cases h
 |succ f L=>
  intro a b h F ar j;subst j;simp only[wU]at h;cases g:S[a]? with
  |none=>rw[g]at h;cases h
  |some x=>
   rw[g]at h;have C:a<S.length:=(rK.1 g).1;have LF:∀r,Cw S (x8 S (f+1) r) r (ti x) (a+1) b:=fun r=>Tq ok (f:=f) rfl (wU S f) (fun a b h=>L a b h (f+1) r rfl) _ _ _ h
   have M:=(LF []).le;refine⟨V,V,fun m t d=> ?_⟩;rw[rW]at d|-;have z:=ok.node x (rL g);unfold x8 at d|-;simp only[g]at d|-;by_cases v:x.kind<=8;·obtain⟨B,K⟩:=Su z v;have i:sf x.kind=false:=kB;have VJ:ti x=[]:=pd;obtain rfl:b=a+1:=gD;rw[rv v]at d|-;refine⟨x6 g i t,fun F j=> ?_⟩;obtain⟨F,rfl⟩:∃o,F=o+1:=⟨F-1,V⟩;have E:=Bo x.kind B V V;rw[Gw,take_one g];unfold zA;rw[rv V,E,<-K,DS ok C]
   rw[ru v]at d|-;cases i:sf x.kind with
   |true=>
    have N:=Xf i;have G:=t.iff a x g i;have I:¬m[a]? =some true:=fun e=>Eu _ (G.1 e)
    simp only[i,uw,ru I,tU]at d|-;have n:=Bp g t;generalize m.set a true=O at*;have q:xW x=false:=Mh (CM S (f+1) _) x _ d;rw[q]at d|-;have D:x.kind=9\/x.kind=10\/x.kind=14:=by unfold sf at i;simpa[or_assoc]using i
    unfold Pv at d|-;rcases D with l|l|l
    ·rw[rv l]at d|-;have VJ:ti x=x.fields.map (·.type):=by unfold ti;rw[rv l]
     have k:=LF (sE x.name);rw[VJ]at k;have:=Fm ok (ar:=ar) (CM S (f+1) (sE x.name)) g l q k n d (vZ _);exact⟨this.1,fun F j=>(Fm ok (ar:=ar) (CM S (f+1) (sE x.name)) g l q k n d j).2⟩
    ·have VJ:ti x=[]:=pd;obtain rfl:b=a+1:=gD;rw[ru V,rv l]at d|-;refine⟨n,fun F j=> ?_⟩;obtain⟨F,rfl⟩:∃o,F=o+1:=⟨F-1,V⟩;exact Qk ok g l q
    ·have VJ:ti x=[]:=pd;obtain rfl:b=a+1:=gD;rw[ru V,ru V]at d|-;refine⟨n,fun F j=> ?_⟩;obtain⟨F,rfl⟩:∃o,F=o+1:=⟨F-1,V⟩;exact Nu ok g l q
   |false=>
    have n:=x6 g i t;simp only[i,MK,yW]at d|-;by_cases p:x.kind=13
    ·rw[rv p]at d|-;have VJ:ti x=x.rR:=by unfold ti;rw[ru V,ru V,rv p]
     have k:=LF ar;rw[VJ]at k;have:=HI ok (CM S (f+1) ar) g p k n d (vZ _);exact⟨this.1,fun F j=>(HI ok (CM S (f+1) ar) g p k n d j).2⟩
    ·rw[ru p]at d|-;have y:x.kind=11\/x.kind=12:=by unfold uZ at z;simp only[rG,rQ]at z;unfold sf at i;simp at i;omega
     have VJ:ti x=[x.items]:=by unfold ti;rw[ru V,rv y]
     have k:=LF ar;rw[VJ]at k;cases k with
     |cons A H=>cases H;have:=IW ok (F:=SizeOf.sizeOf (jO [tp,if x.kind=12 then wS else uO] [jT (tu x.kind),(x8 S (f+1) ar x.items.toNat (m,false)).1])+1) g y A n d (vZ _);exact⟨this.1,fun F j=>(IW ok g y A n d j).2⟩
end
