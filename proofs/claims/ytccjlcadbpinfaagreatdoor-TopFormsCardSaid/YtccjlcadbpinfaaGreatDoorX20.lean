import Derived.Test.YtccjlcadbpinfaaGreatDoorX18
set_option linter.all false
set_option maxRecDepth 100000
set_option maxHeartbeats 16000000
namespace Go.Proofs.YtccjlcadbpinfaaGreatDoor.Tp
open ChangeShapes WideShapes ChangeAt RowKit
open Num Mem Can
def TL{g B b:Nat}{w w':World}(h:rS g B w w')(e:b<=B):uK (fun p=>p.block=g) b w w':=⟨h.size,fun p d a=>h.cell V a,fun p d a=>h.frozen V a⟩
def vR(S:List Nd)(root:Int):Bool:=decide (0<S.length)&&(decide (S.length<=200)&&(decide (root=0)&&decide (wU S 33 0=some S.length)))
def Fk(S:List Nd)(root:Int)(w:World)(X:acO)(A:acN)(n c:Nat)(y:tV w X A n S)(D:∀b,X b->b<w.heap.size)(W:n<=100000000):Calls Tryz.prog 62 #[.agg #[.slice A n c,.int .i64 root]] w fun e w'=>e=.returned (.bool (vR S root))/\acP w w':=by
 have G:=y.len;obtain⟨R,a⟩:∃R,R=vR S root:=⟨_,rfl⟩;rw[<-a];unfold vR at a;rw[G]at a;have g:=rq a;clear a G;have E:=((acQ w).al rT (sC A n c root)).al bi (.cells #[.slice A n c,.int .i64 root,.int .i64 0] 201);have I:((w.alloc (sC A n c root)).alloc (.cells #[.slice A n c,.int .i64 root,.int .i64 0] 201)).cell? ⟨w.heap.size,0,none⟩=some (.slice A n c):=bf;have L:((w.alloc (sC A n c root)).alloc (.cells #[.slice A n c,.int .i64 root,.int .i64 0] 201)).cell? ⟨w.heap.size,1,none⟩=some (.int .i64 root):=bf;have z:Vl ((w.alloc (sC A n c root)).alloc (.cells #[.slice A n c,.int .i64 root,.int .i64 0] 201)) (w.heap.size+1) A n c root 0:=⟨⟨bf,bf,bf⟩,fun j=>bf⟩;have Y:((w.alloc (sC A n c root)).alloc (.cells #[.slice A n c,.int .i64 root,.int .i64 0] 201)).heap.size=w.heap.size+2:=bi;go_enter Tryz.func62,Tryz.ntmps62;go_upto_region 2 with fail;generalize(w.alloc (sC A n c root)).alloc (.cells #[.slice A n c,.int .i64 root,.int .i64 0] 201)=w1 at*;refine td (K:=uK (fun p=>p.block=w.heap.size+1)) (uK.keeps _) (sk.of [0,1,2,3,4,5,6,7,8,9,10,11,12,13,14,15,16,17,18,19,20,21,22,24,25,26,23,27,28,29] .nil) [17,23] bg bg bC bg (fun _ _ d _ _ h=>bw) (fun wd q sW=> ?_);have d0:=(q.cell (p:=⟨w.heap.size,0,none⟩) bd).trans I;have d1:=(q.cell (p:=⟨w.heap.size,1,none⟩) bd).trans L;have O:=z.below q V;have Bj:=E.sV V q;have Z:w.heap.size+1<wd.heap.size:=V;clear q sW I L z E Y;by_cases i:0<n
 ·have B:decide (0<n)=true:=rP i;by_cases m:n<=200
  ·have C:decide (n<=200)=true:=rP m;have T:decide ((n:Int)<=200)=true:=rP V;by_cases o:root=0
   ·have U:(root==0)=true:=tB.2 o;have a:=g.out;rw[B,C,rP o,rU,rU,rU]at a;have v:=rq a;have H:=UM S (w.heap.size+1) A n c root X W 33 0 0 wd V V O (rO _) (y.below Bj D) Z (fun b hb=>by have:=D b hb;have:=Bj.size;omega);clear a g o i m y;refine aC ?_;refine rZ rfl rfl (w.heap.size+1) V (fun Q1 sP=> ?_);go_wp2_with fail;refine H.mono ?_;rintro e' a7 ⟨rfl,⟨a6,N,a0,x⟩,l⟩;have e0:=(l.cell (p:=⟨w.heap.size,0,none⟩) bd bi).trans d0;have e1:=(l.cell (p:=⟨w.heap.size,1,none⟩) bd bi).trans d1;have F:=Bj.trans (l.below (B':=w.heap.size) V V);have a1:=l.size;clear d0 d1 H;go_wp2_with fail;refine sP _ _ (TL l V) ?_;clear sP;cases t:wU S 33 0 with
    |none=>
     obtain rfl:R=false:=by rw[v.out,t];simp
     clear v x t l;rw[Dq];refine aD ?_;refine rZ rfl rfl (w.heap.size+1) V (fun Q1 sP=> ?_);go_wp2_with fail;refine sP _ _ (uK.refl _ _ _) ?_;clear sP;refine aD ?_;refine sI ?_;go_wp2_with fail;go_ret;exact⟨rfl,F⟩
    |some r=>
     obtain rfl:=x r t;have a:=v.out;rw[t]at a;have M:=rq a;clear a v x t l;rw[Dr];obtain⟨⟨a2,a3,a4⟩,a5⟩:=N;refine aD ?_;refine rZ rfl rfl (w.heap.size+1) V (fun Q1 sP=> ?_);go_wp2_with fail;refine sP _ _ (uK.refl _ _ _) ?_;clear sP;refine aD ?_;refine sI ?_;go_wp2_with fail;go_ret;refine⟨?_,F⟩;rw[M.out];by_cases h:r=n;·simp[h]
     ·simp[h];omega
   ·have U:(root==0)=false:=rr.2 o;obtain rfl:R=false:=by rw[g.out,rF o];simp
    clear g i m o;exact lK
  ·have C:decide (n<=200)=false:=rF m;have T:decide ((n:Int)<=200)=false:=rF V;obtain rfl:R=false:=by rw[g.out,rF m];simp
   clear g i m;exact lK
 ·have B:decide (0<n)=false:=rF i;obtain rfl:R=false:=by rw[g.out,rF i];simp
  clear g i;exact lK
def KY(A:acN)(n c g:Nat)(xs:acM)(m:Int)(a0: -9223372036854775808<=m)(a1:m<=9223372036854775807)(w:World)(K:Mem.Own w g A n c xs)(a2:n<=1000000000)(hb:g<=w.heap.size):Calls Tryz.prog 119 #[.slice A n c,.int .i64 m] w fun e w'=>∃(z:acN)(k c2:Nat),e=.returned (.slice z k c2)/\Mem.Own w' g z k c2 (xs++zO m)/\Below g w w'/\xm A w z w':=by
 by_cases U:m<0
 ·go_enter Tryz.func119,Tryz.ntmps119;have tm:=(Below.refl g w).al hb (.cells #[.int .u8 45] 5);have L:=rd_val w 45 45 rfl;have O:IntKind.u64.wrap (-IntKind.u64.wrap m)=((m.natAbs:Nat):Int):=bM;go_wp2_with(at_builtin;go_must(refine sS rfl rfl (K.alloc _) rfl L V (by simp;omega) ?_);intro y c1 w1 E H I);try rw[O]
  have XK:=tm.trans H;have Zw:=(xm.al A w (.cells #[.int .u8 45] 5)).trans I;have YT:g<=w1.heap.size:=by have:=XK.size;omega
  have R:m.natAbs<10^21:=V;have D:m.natAbs<=9223372036854775808:=V;have t:xs++zO m=(xs++[45])++(uU 20 m.natAbs).reverse:=by unfold zO;rw[rv U];simp
  have HNP:=rq t;clear tm L H O t I;generalize m.natAbs=a at*;generalize xs++[45]=zs at*;have S:n+1<=1000000001:=V;generalize n+1=a3 at*;go_loopw [5,6] (fun l G wr=>∃(f u:Nat)(d:acN)(k3 i:Nat)(ds:acM),l=.int .u64 u/\G=.slice d k3 i/\Mem.Own wr w1.heap.size d k3 i ds/\ds++uU f u=uU 20 a/\u<10^(f+1)/\u<=9223372036854775808/\k3+f<=20/\acP w1 wr) (fun l _ _=>(intOf l).toNat);case atStart=>exact⟨20,a,none,0,0,[],rfl,rfl,Mem.Own.nil _ _,rfl,V,D,V,Below.refl _ _⟩
  case
   round=>
    obtain⟨f,u,d,k3,i,ds,rfl,rfl,YS,sW,hu,X,T,vu⟩:=hrel;have p:=vu.size;have b:=rq sW;clear sW;by_cases h9:9<u
    ·have C:(9:Int)<(u:Int):=V;obtain⟨f,rfl⟩:∃B,f=B+1:=jn;have v:(ds++[UInt8.ofNat (48+u%10)])++uU f (u/10)=uU 20 a:=by rw[<-b.out];simp[uU,h9]
     have Vg:=rq v;clear v b;have hu2:u/10<10^(f+1):=by rw[PO]at hu;omega
     clear hu;have W7:((UInt8.ofNat (48+u%10)).toNat:Int)=48+(u:Int)%10:=by simp;omega
     generalize UInt8.ofNat (48+u%10)=b8 at*;have N:IntKind.u8.wrap (48+(u:Int)%10)=48+(u:Int)%10:=bM;have x:IntKind.u64.wrap (48+(u:Int)%10)=48+(u:Int)%10:=bM;have Y:IntKind.u64.wrap ((u:Int)/10)=(u:Int)/10:=bM;have tm:=(Below.refl w1.heap.size wr).al p (.cells #[.int .u8 (48+(u:Int)%10)] 5);exact mh
    ·have C:¬(9:Int)<(u:Int):=V;have q:uU f u=[UInt8.ofNat (48+u)]:=kO;have r:ds++[UInt8.ofNat (48+u)]=uU 20 a:=by rw[<-b.out,q]
     have HF:=rq r;clear r q b;have W7:((UInt8.ofNat (48+u)).toNat:Int)=48+(u:Int):=by simp;omega
     generalize UInt8.ofNat (48+u)=b8 at*;have N:IntKind.u8.wrap (48+(u:Int))=48+(u:Int):=bM;have x:IntKind.u64.wrap (48+(u:Int))=48+(u:Int):=bM;have tm:=(Below.refl w1.heap.size wr).al p (.cells #[.int .u8 (48+(u:Int))] 5);go_wp2_with(at_builtin;go_must(refine yF rfl rfl (YS.alloc _) rfl (rd_val wr b8 _ (by rw[W7])) V (by simp;omega) ?_);intro A4 c4 w4 D1 DV);have j:=vu.trans (tm.trans DV);have F:=j.size;refine(Fa A4 (k3+1) c4 w1.heap.size _ w4 D1 V F).mono ?_;rintro e' Z ⟨rfl,JQ,o⟩;have FA:=j.trans o;have W:=FA.size;have hom:=E.below FA;clear tm DV j D1 YS o N x W7 vu;exact mZ
 ·go_enter Tryz.func119,Tryz.ntmps119;obtain⟨a,rfl⟩:=tD (show 0<=m from V);go_wp2_with fail;have E:=K;have XK:=Below.refl g w;have Zw:=xm.refl A w;have YT:=hb;have R:a<10^21:=V;have D:a<=9223372036854775808:=V;have t:xs++zO (a:Int)=xs++(uU 20 a).reverse:=by unfold zO;rw[ru V];simp
  have HNP:=rq t;clear t;obtain⟨y,Q⟩:∃y,y=A:=⟨_,rfl⟩;subst Q;have S:n<=1000000001:=V;go_loopw [5,6] (fun l G wr=>∃(f u:Nat)(d:acN)(k3 i:Nat)(ds:acM),l=.int .u64 u/\G=.slice d k3 i/\Mem.Own wr w.heap.size d k3 i ds/\ds++uU f u=uU 20 a/\u<10^(f+1)/\u<=9223372036854775808/\k3+f<=20/\acP w wr) (fun l _ _=>(intOf l).toNat);case atStart=>exact⟨20,a,none,0,0,[],rfl,rfl,Mem.Own.nil _ _,rfl,V,D,V,Below.refl _ _⟩
  case
   round=>
    obtain⟨f,u,d,k3,i,ds,rfl,rfl,YS,sW,hu,X,T,vu⟩:=hrel;have p:=vu.size;have b:=rq sW;clear sW;by_cases h9:9<u
    ·have C:(9:Int)<(u:Int):=V;obtain⟨f,rfl⟩:∃B,f=B+1:=jn;have v:(ds++[UInt8.ofNat (48+u%10)])++uU f (u/10)=uU 20 a:=by rw[<-b.out];simp[uU,h9]
     have Vg:=rq v;clear v b;have hu2:u/10<10^(f+1):=by rw[PO]at hu;omega
     clear hu;have W7:((UInt8.ofNat (48+u%10)).toNat:Int)=48+(u:Int)%10:=by simp;omega
     generalize UInt8.ofNat (48+u%10)=b8 at*;have M:IntKind.u8.wrap (48+(u:Int)%10)=48+(u:Int)%10:=bM;have x:IntKind.u64.wrap (48+(u:Int)%10)=48+(u:Int)%10:=bM;have Y:IntKind.u64.wrap ((u:Int)/10)=(u:Int)/10:=bM;have tm:=(Below.refl w.heap.size wr).al p (.cells #[.int .u8 (48+(u:Int)%10)] 5);exact mh
    ·have C:¬(9:Int)<(u:Int):=V;have q:uU f u=[UInt8.ofNat (48+u)]:=kO;have r:ds++[UInt8.ofNat (48+u)]=uU 20 a:=by rw[<-b.out,q]
     have HF:=rq r;clear r q b;have W7:((UInt8.ofNat (48+u)).toNat:Int)=48+(u:Int):=by simp;omega
     generalize UInt8.ofNat (48+u)=b8 at*;have M:IntKind.u8.wrap (48+(u:Int))=48+(u:Int):=bM;have x:IntKind.u64.wrap (48+(u:Int))=48+(u:Int):=bM;have tm:=(Below.refl w.heap.size wr).al p (.cells #[.int .u8 (48+(u:Int))] 5);go_wp2_with(at_builtin;go_must(refine yF rfl rfl (YS.alloc _) rfl (rd_val wr b8 _ (by rw[W7])) V (by simp;omega) ?_);intro A4 c4 w4 D1 DV);have j:=vu.trans (tm.trans DV);have F:=j.size;refine(Fa A4 (k3+1) c4 w.heap.size _ w4 D1 V F).mono ?_;rintro e' Z ⟨rfl,JQ,o⟩;have FA:=j.trans o;have W:=FA.size;have hom:=E.below FA;clear tm DV j D1 YS o M x W7 vu;exact mZ
def MX(A:acN)(n c a:Nat)(xs:acM)(m:Int)(i: -9223372036854775808<=m)(j:m<=9223372036854775807)(w:World)(o:Mem.Own w a A n c xs)(l:n<=1000000000)(hb:a<=w.heap.size):Calls Tryz.prog 119 #[.slice A n c,.int .i64 m] w fun e w'=>∃(b:acN)(k c2:Nat),e=.returned (.slice b k c2)/\Mem.Own w' a b k c2 (xs++zO m)/\Below a w w':=(KY A n c a xs m i j w o l hb).mono fun e w' ⟨b,k,c2,d,g,h,_⟩=>⟨b,k,c2,d,g,h⟩
end Go.Proofs.YtccjlcadbpinfaaGreatDoor.Tp
namespace Go.Proofs.YtccjlcadbpinfaaGreatDoor.Tp
open Num Mem Can
def wT{xs:acM}{a:Nat}{c:UInt8}{r:acM}(h:xs.drop a=c::r):pk xs a=c/\xs.drop (a+1)=r/\a<xs.length:=by
 have d:a<xs.length:=by
  rcases sX a xs.length with b|b;·exact b
  ·rw[th b]at h;cases h
 rw[rH d]at h;injection h with h1 h2;exact⟨by unfold pk;rw[List.getD,ry d,h1];rfl,h2,d⟩
def Af{xs s r:acM}{a:Nat}(h:xs.drop a=s++r):xs.drop (a+s.length)=r:=by rw[<-AN,h,List.drop_left]
def Ye{xs:acM}{a:Nat}(h:xs.drop a=[]):pk xs a=0:=by have:=Jo.1 h;unfold pk;rw[List.getD,ta this];rfl
def F5{xs:acM}{a:Nat}{c:UInt8}{r:acM}(h:xs.drop a=c::r)(b:wR c=false):vH xs a=a:=by unfold vH;rw[h,KW,b];simp
def Uc{xs:acM}{a:Nat}(h:xs.drop a=[]):vH xs a=a:=by unfold vH;rw[h];rfl
def DK(r:acM):Prop:=∀c s,r=c::s->wF c=false/\c≠46
def DK.pk{xs r:acM}{a:Nat}(h:DK r)(b:xs.drop a=r):wF (pk xs a)=false/\Tp.pk xs a≠46:=by
 cases r with
 |nil=>rw[Ye b];exact⟨bD,bD⟩
 |cons c s=>rw[(wT b).1];exact h c s rfl
def xt{xs:acM}{a:Nat}{c:UInt8}{r:acM}(k:Nat)(h:xs.drop a=c::r)(b:Lib.indexByte xl c=k)(e:wR c=false):se xs a=.ok ⟨1+k,0,[],a,a+1⟩:=by
 have d:=wT h;have g:uT xs a=(1+(k:Int),0,[],a+1,0):=by unfold uT;rw[d.1,b,rv V]
 unfold se;rw[F5 h e,ru V,g];simp
def Ui{xs:acM}{a:Nat}(h:xs.drop a=[])(b:a<=xs.length):se xs a=.ok ⟨11,0,[],xs.length,xs.length⟩:=by have:=Jo.1 h;unfold se;rw[Uc h,rv V]
def SR:∀c:UInt8,0<=Lib.indexByte tF c/\c≠47->JC (Cz.getD (Lib.indexByte tF c).toNat 0)=some c:=by have key:∀k:Fin 256,0<=Lib.indexByte tF (UInt8.ofNat k.val)/\UInt8.ofNat k.val≠47->JC (Cz.getD (Lib.indexByte tF (UInt8.ofNat k.val)).toNat 0)=some (UInt8.ofNat k.val):=bC;exact ij
def Wj:∀c:UInt8,128<=c.toNat->CI c=[c]:=by have key:∀k:Fin 256,128<=(UInt8.ofNat k.val).toNat->CI (UInt8.ofNat k.val)=[UInt8.ofNat k.val]:=bC;exact ij
def OW:∀k,k<16->FC (BN.getD k 0)=some k:=by have key:∀k:Fin 16,FC (BN.getD k.val 0)=some k.val:=bC;intro k h;exact key ⟨k,h⟩
def Rs{c:Nat}(h:128<=c)(a:c<=1114111):∀b∈Ut.tW c,128<=b.toNat:=by
 intro b hb;unfold Ut.tW at hb;repeat' split at hb
 all_goals
  simp only[sg,uA,Cp]at hb;first
   |omega
   |(rcases hb with rfl|rfl<;>simp only[tc]<;>omega)
   |(rcases hb with rfl|rfl|rfl<;>simp only[tc]<;>omega)
   |(rcases hb with rfl|rfl|rfl|rfl<;>simp only[tc]<;>omega)
def IM:∀l:acM,(∀b∈l,128<=b.toNat)->l.flatMap CI=l
 | [],_=>rfl
 |b::r,h=>by rw[AO,Wj b (h b (tP ..)),IM r (fun x a=>h x (uz _ a))];rfl
def Wl{xs:acM}:∀(n:Nat)(t:acM),t.length<=n->yB t=true->∀(f a:Nat)(ts r:acM),xs.drop a=t.flatMap CI++34::r->(t.flatMap CI).length<f->Dg xs f a ts=(ts++t,a+(t.flatMap CI).length+1,0):=by
 intro n;induction n with
 |zero=>intro t G _ f a ts r h hf;obtain rfl:t=[]:=rI V;obtain⟨f,rfl⟩:∃y,f=y+1:=⟨f-1,V⟩;rw[N5 (wT h).1];simp
 |succ n v=>
  intro t G hr f a ts r h hf;obtain⟨f,rfl⟩:∃y,f=y+1:=⟨f-1,V⟩;cases t with
  |nil=>rw[N5 (wT h).1];simp
  |cons c t=>
   have H:(Ut.vM (c::t)).2.2=0:=by apply DG;intro X;unfold yB at hr;rw[Ut.HG bi X]at hr;cases hr
   have l:yB ((c::t).drop (Ut.vM (c::t)).2.1)=true:=by unfold yB at hr|-;rw[Ut.Ji H]at hr;exact iR
   by_cases q:c.toNat<128
   ·have W:=Ut.My q t;rw[W]at l;simp only[zx,yM]at l;rw[AO,rX]at h;rw[AO,rC]at hf;rw[AO,rC];simp only[rM]at G;rcases Ma c with⟨k,h1,h2,_,j⟩|⟨_,h2,j⟩|⟨h1,h2,j⟩|⟨_,h2,j⟩
    ·have E:=SR c ⟨V,h2⟩;rw[h1,rW]at E;rw[j]at h hf|-;have d:=wT h;have p:=wT d.2.1;have z:wD xs (a+1)=(a+1+1,[c],0):=by unfold wD;rw[p.1,E]
     rw[N6 d.1,z,rv rfl,v t V l f _ _ r p.2.1 fy];exact gy
    ·rw[j]at h hf|-;have d:=wT h;have p:=wT d.2.1;have K:=wT p.2.1;have L:=wT K.2.1;have M:=wT L.2.1;have N:=wT M.2.1;have a0:vg xs 4 (a+1+1) 0=((c.toNat:Int),a+1+1+1+1+1+1):=by simp only[vg,K.1,L.1,M.1,N.1,show FC 48=some 0 from rfl,OW _ (show c.toNat/16<16 from V),OW _ (show c.toNat%16<16 from V)];congr 1;omega
     have S:CA xs (a+1)=((c.toNat:Int),a+1+1+1+1+1+1):=by unfold CA;rw[a0,ru (by intro h;have:=h.1;exact oa)]
     have U:Ut.yv (c.toNat:Int)=true:=by unfold Ut.yv;simp;omega
     have Y:Ut.tW c.toNat=[c]:=by unfold Ut.tW;rw[rv V];simp
     have z:wD xs (a+1)=(a+1+1+1+1+1+1,[c],0):=by unfold wD;rw[p.1,show JC 117=none from bC,S];simp only[U,rW,Y,uw,ne_eq,not_true,yW]
     rw[N6 d.1,z,rv rfl,v t V l f _ _ r N.2.1 fy];exact gy
    all_goals
     have Q:c≠34:=nv;have R:c≠92:=nv;have O:¬c.toNat<32:=by first|omega|(subst h2;decide)
     rw[j]at h hf|-;have d:=wT h;have B:Ut.vM (xs.drop a)=(c.toNat,1,0):=by rw[h];exact Ut.My q _
     rw[Kf (by rw[d.1];exact O) (by rw[d.1];exact Q) (by rw[d.1];exact R),B,rv rfl];have x:(xs.drop a).take 1=[c]:=by rw[h];rfl
     rw[x,v t V l f _ _ r d.2.1 fy];simp only[rM,sc,rX,sa,sd];congr 2;omega
   ·obtain⟨a1,a2,i,o⟩:=Ut.UD H;generalize a6:(Ut.vM (c::t)).2.1=m at*;generalize a3:(Ut.vM (c::t)).1=g at*;have I:=Ut.Ef g;generalize a7:(c::t).drop m=C at*;have T:128<=g:=by
     apply DG;intro a5;have e:Ut.tW g=[UInt8.ofNat g]:=by unfold Ut.tW;rw[rv V]
     rw[e]at i;injection i with i _;rw[<-i]at q;simp only[tc]at q;omega
    have F:=Rs T a2;have A:(c::t).flatMap CI=Ut.tW g++C.flatMap CI:=by rw[<-i,List.flatMap_append,IM _ F]
    have a4:(c::t).length=m+C.length:=by rw[<-i,rC,o]
    rw[A,rX]at h;rw[A,rC]at hf;rw[A,rC,<-o];have B:Ut.vM (xs.drop a)=(g,m,0):=by rw[h,Ut.UH a1,o]
    have D:=Af h;rw[<-o]at D;have x:(xs.drop a).take m=Ut.tW g:=by rw[h,o];simp
    have hpk:128<=(pk xs a).toNat:=by
     obtain⟨b,s,hb⟩:∃b s,Ut.tW g=b::s:=by cases Z:Ut.tW g with
     |nil=>rw[Z]at I;simp at I
     |cons b s=>exact⟨b,s,rfl⟩
     rw[hb]at h;rw[(wT h).1];exact F b (by rw[hb];exact tP ..)
    rw[Kf V oo oo,B,rv rfl,x,v C V l f _ _ r D V,rX,i];congr 2;omega
def Je{xs:acM}{a:Nat}{t r:acM}(h:xs.drop a=sU t++r)(g:yB t=true):se xs a=.ok ⟨10,0,t,a,a+(sU t).length⟩:=by
 unfold sU at h;rw[sa,rX]at h;have b:=wT h;have d:=vy List.length b.2.1;simp only[sx,rC,rM,sc]at d;have e:=Wl _ t rT g (xs.length+1-(a+1)) (a+1) [] r b.2.1 V;have i:uT xs a=(10,0,t,a+(sU t).length,0):=by unfold uT;rw[b.1,ru bD,rv rfl,e];simp only[sd,sU,rM,rC,sc];congr 4;omega
 unfold se;rw[F5 h bD,ru V,i];simp
def Eg:acM->Nat->Nat
 | [],v=>v
 |c::r,v=>Eg r (v*10+(c.toNat-48))
def UI(l:acM)(c:UInt8):∀v,Eg (l++[c]) v=Eg l v*10+(c.toNat-48):=by
 induction l with
 |nil=>intro v;rfl
 |cons x r a=>intro v;simp only[sa,Eg];exact a _
def WB(l:acM):∀v,v<=Eg l v:=by
 induction l with
 |nil=>intro v;exact iW
 |cons x r a=>intro v;simp only[Eg];have:=a (v*10+(x.toNat-48));omega
def No(k:Nat)(h:k<10):vr (UInt8.ofNat (48+k))=true/\(UInt8.ofNat (48+k)).toNat=48+k:=by have:(UInt8.ofNat (48+k)).toNat=48+k:=ca;exact⟨by unfold vr;rw[this];simp;omega,this⟩
def OM:∀(f u:Nat),u<10^(f+1)->(∀c∈(uU f u).reverse,vr c=true)/\Eg (uU f u).reverse 0=u/\(uU f u).reverse≠ []/\(u<=9->(uU f u).reverse.length=1)/\∀c s,(uU f u).reverse=c::s->c=48->u=0
 |0,u,h=>
 by
  obtain⟨i,j⟩:=No u V;refine⟨?_,?_,by simp[uU],by simp[uU],?_⟩;·unfold uU;generalize UInt8.ofNat (48+u)=c at*;simp[i]
  ·unfold uU;generalize UInt8.ofNat (48+u)=c at*;simp only[PL,List.reverse_nil,sd,Eg];omega
  intro c s b a;simp only[uU,PL,List.reverse_nil,sd,List.cons.injEq]at b;obtain⟨rfl,_⟩:=b;rw[a]at j;have:(48:UInt8).toNat=48:=rfl;omega
 |f+1,u,h=>
 by
  by_cases l:9<u
  ·obtain⟨i,j,m,o,n⟩:=OM f (u/10) (by rw[PO]at h;omega);obtain⟨d,g⟩:=No (u%10) V;have e:(uU (f+1) u).reverse=(uU f (u/10)).reverse++[UInt8.ofNat (48+u%10)]:=by rw[uU,rv l,PL]
   rw[e];refine⟨?_,?_,bi,V,?_⟩
   ·intro c a;rw[sl,sH]at a;rcases a with a|rfl;·exact i c a
    ·exact d
   ·rw[UI,j,g];omega
   ·intro c s b a;cases k:(uU f (u/10)).reverse with
    |nil=>exact absurd k m
    |cons x y=>rw[k,sa]at b;injection b with b _;have:=n x y k (b.trans a);omega
  ·have e:(uU (f+1) u).reverse=[UInt8.ofNat (48+u)]:=by rw[uU,ru l];rfl
   obtain⟨d,g⟩:=No u V;rw[e];refine⟨?_,?_,bi,bi,?_⟩;·generalize UInt8.ofNat (48+u)=c at*;simp[d]
   ·generalize UInt8.ofNat (48+u)=c at*;simp only[Eg];omega
   intro c s b a;injection b with b _;rw[<-b]at a;rw[a]at g;have:(48:UInt8).toNat=48:=rfl;omega
def Fj:∀(l r:acM)(v:Nat),(∀c∈l,vr c=true)->(∀c s,r=c::s->vr c=false)->Eg l v<=9223372036854775808->zo (l++r) (-(v:Int)) false=(-(Eg l v:Int),false,l.length)
 | [],r,v,_,a,_=>
 by
  cases r with
  |nil=>rfl
  |cons c s=>simp only[sd,zo,a c s rfl,Eg];simp
 |c::l,r,v,d,a,e=>
 by
  have b:=d c (tP ..);have k:=WB l (v*10+(c.toNat-48));simp only[Eg]at e;have j:48<=c.toNat/\c.toNat<=57:=by simpa[vr]using b
  have g:xV (-(v:Int)) false c=(-((v*10+(c.toNat-48):Nat):Int),false):=by
   unfold xV;rw[ru];·congr 1;omega
   ·rw[show(-9223372036854775808+((c.toNat:Int)-48):Int)= -(9223372036854775808-((c.toNat:Int)-48))from V,Int.neg_tdiv,Int.tdiv_eq_ediv_of_nonneg V];omega
  rw[sa,zo,rv b,g];simp only;rw[Fj l r _ (fun x i=>d x (uz _ i)) a e];simp[Eg]
def P3{c:UInt8}(h:wF c=false):vr c=false:=by unfold wF at h;unfold vr;simp only[Aq]at h|-;omega
def Uj{xs:acM}{a:Nat}{n:Int}{r:acM}(h:xs.drop a=zO n++r)(C:DK r)(a1: -9223372036854775808<=n)(a2:n<=9223372036854775807):se xs a=.ok ⟨9,n,[],a,a+(zO n).length⟩:=by
 obtain⟨G,H,Y,Z,a0⟩:=OM 20 n.natAbs V;have T:∀c s,r=c::s->vr c=false:=fun c s e=>P3 (C c s e).1
 obtain⟨x,y,j⟩:∃x y,(uU 20 n.natAbs).reverse=x::y:=by
  cases S:(uU 20 n.natAbs).reverse with
  |nil=>exact absurd S Y
  |cons x y=>exact⟨x,y,rfl⟩
 have D:=G x (by rw[j];exact tP ..);have F:48<=x.toNat/\x.toNat<=57:=by simpa[vr]using D
 have A:=Fj (uU 20 n.natAbs).reverse r 0 G T (by rw[H];omega);rw[H]at A;have E:x≠45:=by intro e;subst e;exact absurd F bD
 have key:∃p,xA xs a=p/\xs.drop p=(uU 20 n.natAbs).reverse++r/\p+(uU 20 n.natAbs).reverse.length=a+(zO n).length/\(pk xs a=45/\n<0\/pk xs a=x/\¬n<0)/\wR (pk xs a)=false/\a<xs.length/\∃s,xs.drop a=pk xs a::s:=by
  unfold zO at h|-;by_cases m:n<0;·rw[rv m]at h|-;have d:=wT h;refine⟨a+1,by unfold xA;rw[rv d.1],d.2.1,by simp;omega,.inl ⟨d.1,m⟩,by rw[d.1];rfl,d.2.2,_,by rw[d.1];exact h⟩
  ·rw[ru m,sd]at h|-;have q:=h;rw[j,sa]at q;have d:=wT q;have v:wR x=false:=by have:∀k:Fin 10,wR (UInt8.ofNat (48+k.val))=false:=bC;have b:=this ⟨x.toNat-48,V⟩;simp only at b;rwa[show 48+(x.toNat-48)=x.toNat from V,w0]at b
   refine⟨a,by unfold xA;rw[ru (by rw[d.1];exact E)],h,rfl,.inr ⟨d.1,m⟩,by rw[d.1];exact v,d.2.2,_,by rw[d.1];exact q⟩
 obtain⟨p,d,l,B,i,v,a4,s,U⟩:=key;have t:NU xs a=(-(n.natAbs:Int),false,(uU 20 n.natAbs).reverse.length):=by unfold NU;rw[d,l];exact A
 have z:EL xs a=a+(zO n).length:=by unfold EL;rw[t,d];exact B
 have N:xs.drop (EL xs a)=r:=by rw[z,<-B];exact Af l
 have o:=DK.pk C N;have M:QU xs a=n:=by
  unfold QU;rw[t];rcases i with⟨b,g⟩|⟨b,g⟩;·rw[rv b];exact bd
  ·rw[ru (by rw[b];exact E),tG bd bd];exact bd
 have O:(uU 20 n.natAbs).reverse.length≠0:=by rw[j];simp
 have R:pk xs p=x:=by rw[j,sa]at l;exact(wT l).1
 have L:U8 xs a=0:=by
  unfold U8;simp only[t,d,R];rw[ru,ru,ru,ru]
  ·rintro(h|⟨b,g⟩);·cases h
   ·rcases i with⟨K,_⟩|⟨_,a3⟩;·exact b K
    ·omega
  ·rw[o.1];simp
  ·rintro(b|b|b);·exact o.2 b
   ·have:=o.1;rw[b]at this;exact absurd this bD
   ·have:=o.1;rw[b]at this;exact absurd this bD
  ·rintro(b|⟨b,g⟩);·exact O b
   ·have:=a0 x y j g;have:=Z V;omega
 have I:pk xs a≠34:=by
  rcases i with⟨b,_⟩|⟨b,_⟩;·rw[b];decide
  ·rw[b];intro e;subst e;exact absurd F bD
 have W:Lib.indexByte xl (pk xs a)= -1:=by
  rcases i with⟨b,_⟩|⟨b,_⟩;·rw[b];decide+kernel
  ·rw[b];have:∀k:Fin 10,Lib.indexByte xl (UInt8.ofNat (48+k.val))= -1:=bC;have g:=this ⟨x.toNat-48,V⟩;simp only at g;rwa[show 48+(x.toNat-48)=x.toNat from V,w0]at g
 have Q:pk xs a=45\/vr (pk xs a)=true:=by
  rcases i with⟨b,_⟩|⟨b,_⟩;·exact .inl b
  ·right;rw[b];exact D
 have X:uT xs a=(9,n,[],a+(zO n).length,0):=by unfold uT;rw[W,ru bD,ru I,rv Q,M,z,L]
 unfold se;rw[F5 U v,ru V,X];simp
def EY{xs:acM}{a:Nat}{r s:acM}(k v:Int)(h:xs.drop a=s++r)(q:DK r)(i:s=[116,114,117,101]/\k=7/\v=1\/s=[102,97,108,115,101]/\k=7/\v=0\/s=[110,117,108,108]/\k=8/\v=0):se xs a=.ok ⟨k,v,[],a,a+s.length⟩:=by
 have t:=DK.pk q (Af h);have e:yL xs a=(k,v,a+s.length):=by unfold yL Lib.hasPrefix;rw[h];rcases i with⟨rfl,rfl,rfl⟩|⟨rfl,rfl,rfl⟩|⟨rfl,rfl,rfl⟩<;>simp[List.isPrefixOf]
 have l:IZ xs a=0:=by
  unfold IZ;rw[e];simp only;rw[t.1,ru];rintro(d|d);·omega
  ·cases d
 obtain⟨c,j,m,o,n,g⟩:∃c j,s=c::j/\wR c=false/\Lib.indexByte xl c= -1/\¬c=34/\¬(c=45\/vr c=true):=by rcases i with⟨rfl,_,_⟩|⟨rfl,_,_⟩|⟨rfl,_,_⟩;all_goals exact⟨_,_,rfl,bD,bC,bD,bD⟩
 have b:=h;rw[m,sa]at b;have p:=wT b;have x:uT xs a=(k,v,[],a+s.length,0):=by unfold uT;rw[p.1,n,ru bD,ru g.1,ru g.2,e,l]
 unfold se;rw[F5 b o,ru V,x];simp
