import Derived.Test.YtccjlcadbpinfaaGreatDoorX19
import Derived.Test.YtccjlcadbpinfaaGreatDoorX17
set_option linter.all false
set_option maxRecDepth 100000
set_option maxHeartbeats 16000000
namespace Go.Proofs.YtccjlcadbpinfaaGreatDoor.Tp
open ChangeShapes WideShapes ChangeAt RowKit
open Num Mem Can
section
variable{w:World}{g n c:Nat}{own:Nat->Option Nat}{L:afu}{A:aft}{S:List Nd}{er:Int}
def L1(F:Nat)(a4:GU F)(j:J)(a6:SizeOf.sizeOf j<=F)(RD:tS j)(ar:afs)(O:ar.length<=100000000)(a:wx w g own L A n c S er)(X:afu)(k i:Int)(t:ByteArray)(B:aft)(m d:Nat)(B':aft)(x v:Nat)(br:uq w X (jv k i t B m d B' x v) j)(hX:∀b,X b->b<g):Calls Tryz.prog 110 #[sg g,jA k i t B m d B' x v,.string ⟨ar.toArray⟩] w (WO w g own L S (yi (uf F) j ar (S.map td) er)):=by
 obtain⟨W,Z⟩:=sW (xE j tC er);obtain⟨bw,M⟩:=sW (yi (uf F) j ar (S.map td) er);rw[<-M];unfold yi at M;simp only at M;rw[<-Z]at M;have HR:=rz M;have bs:W.1.length<=100000000:=by rw[Z];exact kS
 clear M;have bp:=a.r.lt;have N:=(afw w).al rV (jc k i t B m d B' x v);have a2:=N.yg;have c3:=N.l1;go_enter Tryz.func110,Tryz.ntmps110;go_upto_region 1 with fail;generalize w.alloc _=w1 at*;have a7:=a.cl.below N bp;have a9:=sa.of (g:=g) N;have a5:=br.stay N bq;clear N;have a0:=BD j tC a7 X k i t B m d B' x v a5 hX;rw[<-Z]at a0;unfold tC at a0;obtain⟨b0,b1,b2,b3,b4, -⟩:=a2.xe;clear Z;obtain⟨W,a1⟩:=W;simp only at*;go_wp2_with fail;refine sG a0 fun bk I=> ?_
 clear a0 b0 b1 b2 b3 b4;have D:=a5.xh I.2 bq;have G:=a2.off I.2 V V;have c4:=I.2.size;have a3:=a9.sY V I.2;have S2:=a.off a3 I.1;have K2:=a.yM a3;clear a7 a9 a5 a2 I a3;have bx:=S2.cl.c2;by_cases Y:a1=0
 ·subst Y;have hR:=HR.out;rw[rG rfl]at hR;clear HR;have b9:=D7 W bk S2.zL;have Iz:=He W ar bs O S2;have bv:∀bj:Int,Wy bk g own L {CH with kind:=bj} none 0 0:=fun bj=>⟨Row.nil _ _ _ _,rZ _,V,rfl,rfl,rfl⟩
  clear bv;generalize wJ W=K at*;have HR:=rz hR;clear hR;obtain⟨b0,b1,b2,b3,b4, -⟩:=G.xe;go_wp2_with fail;refine tZ b9 ?_;clear b9;have key:∀P:Prop,(K=11->P)->(K=12->P)->(K=9->P)->(K=10->P)->(K=14->P)->(K≠11->K≠12->K≠9->K≠10->K≠14->P)->P:=fun P az aU b5 b6 b7 bn=>
   by
    by_cases aa:K=11;·exact az aa
    by_cases ab:K=12;·exact aU ab
    by_cases ad:K=9;·exact b5 ad
    by_cases af:K=10;·exact b6 af
    by_cases an:K=14;·exact b7 an
    exact bn aa ab ad af an
  refine key _ (fun y=> ?_) (fun y=> ?_) (fun y=> ?_) (fun y=> ?_) (fun y=> ?_) (fun az aU b5 b6 b7=> ?_);·subst y;have hR:=HR.out;rw[rG bH]at hR;have Xx:=Jc F a4 j a6 RD (11:Nat) uW ar O S2 X k i t B m d B' x v D hX;rw[show(((11:Nat):Int))=11 from rfl]at hR Xx;rw[<-hR]at Xx;unfold uW at Xx;exact eB
  ·subst y;have hR:=HR.out;rw[rB bH,rG bH]at hR;have Xx:=Jc F a4 j a6 RD (12:Nat) wP ar O S2 X k i t B m d B' x v D hX;rw[show(((12:Nat):Int))=12 from rfl]at hR Xx;rw[<-hR]at Xx;unfold wP at Xx;exact eB
  ·subst y;have hR:=HR.out;rw[rB bH,rB bH,rG bH]at hR;obtain⟨H,hH⟩:=sW (zJ j ((9:Nat):Int) ar (S.map td) 0);have o:H.1.fields=[]/\H.1.rX=[]/\H.1.symbols=[]/\H.1.name.length<=100000000:=nF;rw[<-hH]at hR;clear HR key Iz b0 b1 b2 b3 b4;go_upto_region 11 with fail;refine sR (K:=Kb (fun b=>b=w.heap.size)) (Kb.keeps _) (sA.of [0,1,2,3,4,5,6,7,8] .nil) [6,7] bm bm bF bm bt (fun wd l tj=> ?_);have Sd:=S2.below l;have T:=K2.trans (S2.yM (sa.of l));have R:=G.below l V;have Xr:=D.stay l (fun b hb=>jw);have be:=l.size;have b8:=Sd.r.lt;have p:=E1 j ((9:Nat):Int) ar O RD Sd X k i t B m d B' x v Xr hX;rw[<-hH]at p;clear hH S2 K2 G D l tj;obtain⟨H,a8⟩:=H;simp only at hR p o;have HR:=rz hR;clear hR;obtain⟨b0,b1,b2,b3,b4, -⟩:=R.xe;refine aW ?_;refine se rfl rfl 0 rV (fun Q1 tv=> ?_);go_wp2_with fail;refine p.mono ?_;rintro e' w4 ⟨z,E,c1,rfl,r4,C,B4⟩;clear p b0 b1 b2 b3 b4;go_wp2_with fail;refine tv _ _ (Kb.off bP B4.2) ?_;clear tv;have S4:=Sd.off B4.2 B4.1;have K4:=T.trans (Sd.yM B4.2);have U:=Xr.xh B4.2 bq;have bd:=B4.2.size;have HV4:Wy w4 g own L H z E c1:=⟨r4.keep (fun _ _=>rfl) (fun b hb=>⟨Hr Sd rV hb,fun hl=>jX⟩),C.1,C.2,o.1,o.2.1,o.2.2.1⟩;have Uv:=L3 F a4 j a6 RD H o.2.2.2 S4 X k i t B m d B' x v U hX z E c1 HV4;exact mq
  ·subst y;have hR:=HR.out;rw[rB bH,rB bH,rB bH,rG bH]at hR;obtain⟨H,hH⟩:=sW (zJ j ((10:Nat):Int) ar (S.map td) 0);have o:H.1.fields=[]/\H.1.rX=[]/\H.1.symbols=[]/\H.1.name.length<=100000000:=nF;rw[<-hH]at hR;clear HR key Iz b0 b1 b2 b3 b4;go_upto_region 13 with fail;refine sR (K:=Kb (fun b=>b=w.heap.size)) (Kb.keeps _) (sA.of [0,1,2,3,4,5,6,7,8] .nil) [6,7] bm bm bF bm bt (fun wd l tj=> ?_);have Sd:=S2.below l;have T:=K2.trans (S2.yM (sa.of l));have R:=G.below l V;have Xr:=D.stay l (fun b hb=>jw);have be:=l.size;have b8:=Sd.r.lt;have p:=E1 j ((10:Nat):Int) ar O RD Sd X k i t B m d B' x v Xr hX;rw[<-hH]at p;clear hH S2 K2 G D l tj;obtain⟨H,a8⟩:=H;simp only at hR p o;have HR:=rz hR;clear hR;obtain⟨b0,b1,b2,b3,b4, -⟩:=R.xe;refine aW ?_;refine se rfl rfl 0 rV (fun Q1 tv=> ?_);go_wp2_with fail;refine p.mono ?_;rintro e' w4 ⟨z,E,c1,rfl,r4,C,B4⟩;clear p b0 b1 b2 b3 b4;go_wp2_with fail;refine tv _ _ (Kb.off bP B4.2) ?_;clear tv;have S4:=Sd.off B4.2 B4.1;have K4:=T.trans (Sd.yM B4.2);have U:=Xr.xh B4.2 bq;have bd:=B4.2.size;have HV4:Wy w4 g own L H z E c1:=⟨r4.keep (fun _ _=>rfl) (fun b hb=>⟨Hr Sd rV hb,fun hl=>jX⟩),C.1,C.2,o.1,o.2.1,o.2.2.1⟩;have Uv:=Q6 j H RD S4 X k i t B m d B' x v U hX z E c1 HV4;exact mq
  ·subst y;have hR:=HR.out;rw[rB bH,rB bH,rB bH,rB bH,rG bH]at hR;obtain⟨H,hH⟩:=sW (zJ j ((14:Nat):Int) ar (S.map td) 0);have o:H.1.fields=[]/\H.1.rX=[]/\H.1.symbols=[]/\H.1.name.length<=100000000:=nF;rw[<-hH]at hR;clear HR key Iz b0 b1 b2 b3 b4;go_upto_region 15 with fail;refine sR (K:=Kb (fun b=>b=w.heap.size)) (Kb.keeps _) (sA.of [0,1,2,3,4,5,6,7,8] .nil) [6,7] bm bm bF bm bt (fun wd l tj=> ?_);have Sd:=S2.below l;have T:=K2.trans (S2.yM (sa.of l));have R:=G.below l V;have Xr:=D.stay l (fun b hb=>jw);have be:=l.size;have b8:=Sd.r.lt;have p:=E1 j ((14:Nat):Int) ar O RD Sd X k i t B m d B' x v Xr hX;rw[<-hH]at p;clear hH S2 K2 G D l tj;obtain⟨H,a8⟩:=H;simp only at hR p o;have HR:=rz hR;clear hR;obtain⟨b0,b1,b2,b3,b4, -⟩:=R.xe;refine aW ?_;refine se rfl rfl 0 rV (fun Q1 tv=> ?_);go_wp2_with fail;refine p.mono ?_;rintro e' w4 ⟨z,E,c1,rfl,r4,C,B4⟩;clear p b0 b1 b2 b3 b4;go_wp2_with fail;refine tv _ _ (Kb.off bP B4.2) ?_;clear tv;have S4:=Sd.off B4.2 B4.1;have K4:=T.trans (Sd.yM B4.2);have U:=Xr.xh B4.2 bq;have bd:=B4.2.size;have HV4:Wy w4 g own L H z E c1:=⟨r4.keep (fun _ _=>rfl) (fun b hb=>⟨Hr Sd rV hb,fun hl=>jX⟩),C.1,C.2,o.1,o.2.1,o.2.2.1⟩;have Uv:=NZ j H RD S4 X k i t B m d B' x v U hX z E c1 HV4;exact mq
  ·have hR:=HR.out;rw[rB V,rB V,rB V,rB V,rB V]at hR;rw[<-hR]at Iz;have c5:((K:Int)==11)=false:=rA.2 V;have c6:((K:Int)==12)=false:=rA.2 V;have c7:((K:Int)==9)=false:=rA.2 V;have c8:((K:Int)==10)=false:=rA.2 V;have c9:((K:Int)==14)=false:=rA.2 V;clear HR key hR;go_wp2_with fail;refine Iz.mono ?_;rintro e' w4 ⟨tT,A',n',c',rfl,S4,K4⟩;clear Iz;exact oY
 ·have hR:=HR.out;rw[rB Y]at hR;clear HR;subst hR;have bz:(a1==0)=false:=rA.2 Y;have bO:decide (a1=0)=false:=rI Y;exact jt
end
def U2:∀F,GU F:=by
 intro F;induction F with
 |zero=>intro j E;omega
 |succ F W=>
  intro j aU I ar C w g own L A n c S er X k i t B m d B' Y O a E hX;obtain⟨a6,z⟩:=sW (uf (F+1) j ar (S.map td) er);rw[<-z];rw[uf]at z;have l:=rz z;clear z;have az:=a.r.lt;have o:=(afw w).al rV (jc k i t B m d B' Y O);have a0:=o.yg;go_enter Tryz.func55,Tryz.ntmps55;go_upto_region 1 with fail;generalize w.alloc _=w1 at*;have S1:=a.below o;have K1:=a.yM (sa.of o);have Q:=E.stay o bq;clear o a E;have ad:=S1.cl.c2;obtain⟨a7,a8,a9,aa,ab, -⟩:=a0.xe;by_cases p:er=0
  ·subst p;have e:=l.out;rw[rG rfl]at e;clear l;obtain⟨⟨R, -,T⟩,⟨a1,a3,a4,a5⟩, -, -, -,a2, -⟩:=Q.inv;rw[<-R]at e;have l:=rz e;have Z:=rz T;clear e R T;by_cases q:k=4;·subst q;have e:=l.out;rw[rG rfl]at e;have G:=He j.text ar I.Yn C S1;rw[<-e,<-Z.out]at G;clear l e;go_wp2_with fail;refine G.mono ?_;rintro e' M ⟨tT,A',n',c',rfl,S4,K4⟩;clear G;exact fI
   ·have b0:(k==4)=false:=rA.2 q;have b3:decide (k=4)=false:=rI q;by_cases v:k=5;·subst v;have e:=l.out;rw[rB bH,rG rfl]at e;have K:=N6 F W j.items (fun x U=>⟨by have:=Qa U;omega,I.item U⟩) ar C S1 X B m d a1 a3 a4 a5 hX a2;rw[<-e]at K;clear l e;go_wp2_with fail;refine K.mono ?_;rintro e' M ⟨tT,A',n',c',rfl,S4,K4⟩;clear K;exact fI
    ·have b1:(k==5)=false:=rA.2 v;have b4:decide (k=5)=false:=rI v;by_cases y:k=6;·subst y;have e:=l.out;rw[rB bH,rB bH,rG rfl]at e;have H:=L1 F W j V I ar C S1 X 6 i t B m d B' Y O Q hX;rw[<-e]at H;clear l e;go_wp2_with fail;refine H.mono ?_;rintro e' M ⟨tT,A',n',c',rfl,S4,K4⟩;clear H;exact fI
     ·have b2:(k==6)=false:=rA.2 y;have b5:decide (k=6)=false:=rI y;have e:=l.out;rw[rB q,rB v,rB y]at e;clear l;subst e;have D:=ta S1.cl true 30;rw[show sM true 30 0=30 from rfl]at D;go_wp2_with fail;refine sG D fun M N=> ?_
      clear D;go_wp2_with fail;go_ret;exact⟨own,A,n,c,rfl,by rw[sX];exact N.st S1,K1.trans (S1.yM N.2)⟩
  ·have e:=l.out;rw[rB p]at e;clear l;subst e;have af:(er==0)=false:=rA.2 p;have an:decide (er=0)=false:=rI p;go_wp2_with fail;go_ret;exact⟨own,A,n,c,rfl,by rw[sX];exact S1,K1⟩
structure sZ(w w':World):Prop where
 size:w.heap.size<=w'.heap.size
 AA:∀b,b<w.heap.size->w'.heap[b]? =w.heap[b]?
 env:w'.os=w.os/\w'.output=w.output
def sZ.refl(w:World):sZ w w:=⟨rZ _,fun _ _=>rfl,rfl,rfl⟩
def sZ.trans{a b c:World}(h:sZ a b)(k:sZ b c):sZ a c:=⟨sn h.1 k.1,fun q d=>(k.2 q (rS d h.1)).trans (h.2 q d),k.env.1.trans h.env.1,k.env.2.trans h.env.2⟩
def sZ.below{w w':World}(h:afv w w'):sZ w w':=⟨h.size,h.block,h.os,h.output⟩
def sZ.cell{w w':World}(h:sZ w w'){q:Addr}(a:q.block<w.heap.size):w'.cell? q=w.cell? q:=rK (w:=w) (h.2 _ a)
def PM(S:List Nd)(e:Int):Nat->Int
 |0=>e
 |i+1=>sM (decide (PM S e i=0)&&decide (1000<Ai S 0 i)) 3 (PM S e i)
def NR(F:Nat)(j:J):Bn:=uf F j [] [] 0
def G4(F:Nat)(j:J):Int:=if ue j 0=true then PM (NR F j).2.1 (NR F j).2.2 (NR F j).2.1.length else 2
def EZ(F:Nat)(j:J):List Nd:=if G4 F j=0 then(NR F j).2.1 else []
def Bx.LU{w:World}{r:Nat}{a b:Value}(h:Bx w r [a,b]):w.cell? (rN r 0)=some a/\w.cell? (rN r 1)=some b/\∀j,w.frozen? (rN r j)=false:=⟨h.c 0 a rfl,h.c 1 b rfl,h.f⟩
def KW{b:Func}{p q:Tmp}{te:Value}(h:b.results= #[.cell p 32,.tmp q]){a:Array Value}{w:World}{r n c:Nat}{A:aft}{root:Int}(hp:a.getD p undef=sg r)(hq:a.getD q undef=te)(d:Bx w r [.slice A n c,.int .i64 root]):(results b a).run Tryz.prog w=.ok (.tuple #[.agg #[.slice A n c,.int .i64 root],te]) w:=by have e:a[p]?.getD undef=sg r:=gg;have i:a[q]?.getD undef=te:=fY;simp only[results,h];simp[uJ,Result.andThen,e,i,asAddr,Qe (d.LU).1 (d.LU).2.1]
section
variable{w:World}{r:Nat}{A0:aft}{n0 c0:Nat}{i0:Int}
def Bx.Y5{a b:Value}(h:Bx w r [a,b])(p:Nat):w.cell? (rN r (p+2))=none:=by obtain⟨t,h⟩:=h;rw[AO w r (p+2) _ t (0,0) h];simp
def Ey(hb:Bx w r [.slice A0 n0 c0,.int .i64 i0]){X:afu}{A:aft}{n:Nat}{l:List afs}(h:Row w X 1 A n (uL l)):Row w (fun b=>X b/\b≠r) 1 A n (uL l):=by
 refine⟨h.len,fun k=> ?_⟩;obtain⟨g,p,e,j,d⟩:=h.pos k;refine⟨g,p,e,⟨j,fun i=> ?_⟩,d⟩;subst i;have m:l.length=n:=oy;have a:=(d 0 [sv l[0]] (by simp[uL,show 0<l.length from V])).2 0 _ rfl;rw[zG,sE]at a;rcases p with _|_|p;·have:=(hb.c 0 _ rfl).symm.trans a;simp[sv]at this
 ·have:=(hb.c 1 _ rfl).symm.trans a;simp[sv]at this
 ·have:=(hb.Y5 p).symm.trans a;cases this
def UD(hb:Bx w r [.slice A0 n0 c0,.int .i64 i0]){X:afu}{cs:List Value}{j:J}(h:uq w X cs j):uq w (fun b=>X b/\b≠r) cs j:=by
 induction h with
 |mk hr y G x z B o q E=>refine .mk ⟨hr.len,fun C=> ?_⟩ y (fun i h k=>E i h k) (Ey hb x) z B o q;obtain⟨g,p,m,v,e⟩:=hr.pos C;refine⟨g,p,m,⟨v,fun t=> ?_⟩,e⟩;subst t;rename_i a;have l:0<a.length:=cn;obtain⟨F,D⟩:=e 0 a[0] (rD l);have d:=D 4 _ (rD V);rw[show p+(0*5+4)=(p+2)+2 from V,hb.Y5]at d;cases d
def UB(hb:Bx w r [.slice A0 n0 c0,.int .i64 i0]){X:afu}{cs:List Value}{f:Fd}(h:DB w X cs f):DB w (fun b=>X b/\b≠r) cs f:=by
 cases h with
 |mk a d i e=>exact .mk (Ey hb a) d i (UD hb e)
def CK.trim{g n c:Nat}{own:Nat->Option Nat}{L:afu}{A:aft}{S:List Nd}(h:CK w g own L A n c S)(hb:Bx w r [.slice A0 n0 c0,.int .i64 i0])(H:r<g):tJ w (fun b=>b<w.heap.size/\b≠r) A n S/\n<=c:=by
 obtain⟨m,k,O,Q,l⟩:=h.row;have d:∀b,IG w g own L b/\b≠r->b<w.heap.size/\b≠r:=fun b h=>⟨h.1.1.1,h.2⟩
 refine⟨⟨m,(Row.xg k (Dh V l) V).keep (fun _ _=>rfl) (fun b hb=>⟨hb.2.1,V⟩),V,fun i y z=> ?_⟩,zP k⟩;obtain⟨B,I,c1,C,K,c2,D,M,F,E,N,G,e,a,f,b⟩:=l i y z;rw[e];obtain⟨v,j,o,p,q,_,t⟩:=f;exact .mk ((Ey hb a.1).keep (fun _ _=>rfl) d) ⟨v,(Row.xg j o V).keep (fun _ _=>rfl) (fun b hb=>⟨hb.2.1,V⟩),p,fun i h x=>(UB hb (q i h x)).keep (fun _ _=>rfl) d⟩ ((Ey hb a.2.1).keep (fun _ _=>rfl) d) ((Row.xg b.1 (by simp[xZ]) V).keep (fun _ _=>rfl) (fun b hb=>⟨hb.2.1,V⟩)) a.2.2.1 (zP j) a.2.2.2.1 (zP b.1) a.2.2.2.2.1 t a.2.2.2.2.2 b.2.2
end
def Zl(w:World)(S:List Nd)(er:Int)(e:Ending)(w':World):Prop:=∃(A:aft)(n c:Nat),e=.returned (.tuple #[.agg #[.slice A n c,.int .i64 0],.int .i64 er])/\tJ w' (fun b=>b<w'.heap.size) A n S/\(n<=c/\n<=1000)/\sZ w w'
def Zl.nil(w w':World)(er:Int)(h:sZ w w'):Zl w [] er (.returned (.tuple #[.agg #[.slice none 0 0,.int .i64 0],.int .i64 er])) w':=⟨none,0,0,rfl,⟨[],Row.nil _ _ _ _,rfl,fun i h=>absurd h bA⟩,⟨rZ _,V⟩,h⟩
def QJ(F:Nat)(j:J)(cc:SizeOf.sizeOf j<F)(c3:tS j)(w:World)(bp:uI w)(X:afu)(k i:Int)(t:ByteArray)(B:aft)(m d:Nat)(B':aft)(M I:Nat)(cf:uq w X (jv k i t B m d B' M I) j)(hX:∀b,X b->b<w.heap.size):Calls Tryz.prog 26 #[jA k i t B m d B' M I] w (Zl w (EZ F j) (G4 F j)):=by
 have cA:=bp.two;obtain⟨cz,Y⟩:=sW (EZ F j);obtain⟨a5,U⟩:=sW (G4 F j);rw[<-Y,<-U];unfold EZ at Y;rw[<-U]at Y;unfold G4 at U;have z:=rz Y;have l:=rz U;clear Y U;have x:=((afw w).al rV (jc k i t B m d B' M I)).alloc bA (sC none 0 0 0);have ar:=((Bx.new w #[.int .i64 k,.int .i64 i,.string t,.slice B m d,.slice B' M I] 60 w.heap.size rfl).below (xn.al rV (sC none 0 0 0)) bA);have bk:=x.Kj;have bz:=x.s2;go_enter Tryz.func26,Tryz.ntmps26;go_upto_region 1 with fail;generalize(w.alloc _).alloc _=w1 at*;have cx:=rz bz;have cZ:w.heap.size+2<=w1.heap.size:=V;clear bz;have b7:=cf.stay x hX;have bx:=Df j c3 w1 X k i t B m d B' M I b7 bq;obtain⟨b0,b1,b2,b3,b4, -⟩:=ar.xe;go_wp2_with fail;refine sG bx fun e y=> ?_
 generalize ue j 0=ct at*;clear bx b0 b1 b2 b3 b4;have d0:=y.size;have bj:=ar.below y V;have a3:=bk.below y V;have bw:=b7.stay y bq;have a7:sZ w e:=(sZ.below x).trans ⟨y.size,fun b hb=>y.block b hb,y.os,y.output⟩;have br:=bp.below ⟨x.os,x.tape,x.output,x.size,x.block⟩|>.below y;clear x y ar bk b7;cases ct with
 |false=>have a:=l.out;rw[rB bA]at a;subst a;have o:=z.out;rw[rB bH]at o;subst o;clear l z;obtain⟨s0,s1,b9⟩:=a3.LU;have a4:=(a3.set 0 (.slice none 0 0)).set 1 (.int .i64 0);simp only[rC,rF]at a4;go_wp2_with fail;refine sc (KW rfl rfl rfl a4) rfl ?_;have a2:sa (w.heap.size+1) e.heap.size e ((e.setCell ⟨w.heap.size+1,0,none⟩ (.slice none 0 0)).setCell ⟨w.heap.size+1,1,none⟩ (.int .i64 0)):=((sa.refl _ _ _).setAt 0 _).setAt 1 _;exact Zl.nil w _ 2 ⟨by have:=a2.size;omega,fun b hb=>(a2.block b V V).trans (a7.2 b hb),a2.env.1.trans a7.env.1,a2.env.2.2.trans a7.env.2⟩
 |true=>
  have a:=l.out;rw[rG rfl]at a;clear l;have l:=rz a;clear a;have E:=(afw e).al rV (.cells #[.slice none 0 0,.int .i64 0,.int .i64 0] 125);have O:=E.yg;have bO:=E.l1;go_upto_region 4 with fail;generalize e.alloc _=ab at*;have c6:=bj.below E V;have a4:=a3.below E V;have ch:=bw.stay E bq;have a8:sZ w ab:=a7.trans (sZ.below E);have c8:wx ab e.heap.size (fun _=>none) (fun _=>False) none 0 0 [] 0:=⟨⟨O.c 0 _ rfl,O.c 1 _ rfl,O.c 2 _ rfl,O.f,bO⟩,⟨⟨[],uH _ _ _ _,rfl,rfl,fun i h=>absurd h bA⟩,rfl,fun i j b h=>dM,fun j b h=>dM,fun _ _=>rfl,bO,V,fun b h=>h.elim⟩,br.below E,V⟩;clear E bj a3 bw O br;have b8:=U2 F j cc c3 [] bA ab e.heap.size (fun _=>none) (fun _=>False) none 0 0 [] 0 X k i t B m d B' M I c8 ch bq;obtain⟨az,b5⟩:=sW (NR F j);rw[show uf F j [] (([]:List Nd).map td) 0=az from b5.symm]at b8;have a:=l.out;have o:=z.out;rw[<-b5]at a o;clear l z;have l:=rz a;have z:=rz o;clear a o b5;obtain⟨b0,b1,b2,b3,b4, -⟩:=c6.xe;go_wp2_with fail;refine b8.mono ?_;rintro e' ad ⟨own,A,n,c,rfl,G,a1⟩;clear b8 b0 b1 b2 b3 b4;rw[so]at G;have bs:∀b,b<e.heap.size->ad.heap[b]? =ab.heap[b]?:=fun b hb=>(a1.2 b ⟨V,V,fun k h=>dM⟩).1
  have c7:=a4.AA (bs _ V);have a9:sZ w ad:=⟨by have:=a8.1;have:=a1.1;omega,fun b hb=>(bs b V).trans (a8.2 b hb),a1.env.1.trans a8.env.1,a1.env.2.trans a8.env.2⟩;have ci:=G.len;have cR:=G.cl.lt;generalize az.2.1=P at*;generalize az.2.2=N at*;have a:=l.out;rw[ci]at a;clear l;have l:=rz a;clear a;have c0:=G.cl.c0;go_wp2_with fail;clear c0;go_loopw [5,21] (fun _ bd wr=>∃q:Nat,bd=.int .i64 q/\q<=n/\BW wr e.heap.size A n c (PM P N q)/\sa e.heap.size ad.heap.size ad wr) (fun _ bd _=>n-(intOf bd).toNat);case atStart=>exact⟨0,rfl,sb _,G.cl,sa.refl _ _ _⟩
  case
   round=>
    obtain⟨q,rfl,cS,v,D⟩:=hrel;have H:=G.off D v;have d2:=D.size;have cj:=H.r.le;have c0:=v.c0;have c1:=v.c1;have c2:=v.c2;by_cases cW:q<n
    ·have cp:(q:Int)<(n:Int):=V;have c4:PM P N (q+1)=sM (decide (PM P N q=0)&&decide (1000<Ai P 0 q)) 3 (PM P N q):=rfl;have be:=rz c4;clear c4;generalize PM P N q=an at*;by_cases C:an=0
     ·subst C;have c5:=NO P 0 (q:Int) wr _ A n c H.r.Ft H.r.Ms (by have:=H.r.le;omega);generalize Ai P 0 (q:Int)=W at*;go_wp2_with fail;refine sG c5 fun d3 b6=> ?_
      clear c5;have a0:=ta (v.below b6 v.lt) (decide (1000<W)) 3;go_wp2_with fail;refine sG a0 fun cv ⟨af,aU⟩=> ?_
      clear a0;have cE:=b6.size;go_wp2_with fail;refine⟨⟨q+1,bA,V,by rw[be.out];simpa using af,(D.sY V (sa.of b6)).sY V aU⟩,?_⟩;exact bN
     ·have cb:(an==0)=false:=rA.2 C;have bn:decide (an=0)=false:=rI C;have a0:=ta v false 3;go_wp2_with fail;refine sG a0 fun cv ⟨af,aU⟩=> ?_
      clear a0;go_wp2_with fail;refine⟨⟨q+1,bA,V,by rw[be.out,bn,tO];exact af,D.sY V aU⟩,?_⟩;exact bN
    ·obtain rfl:q=n:=V;have cp:¬(q:Int)<(q:Int):=V;have a:=l.out;rw[<-a]at v c2 H;clear l a;have a6:=c7.off D V V;obtain⟨s0,s1,b9⟩:=a6.LU;have T:sZ w wr:=⟨by have:=a9.1;omega,fun b hb=>(D.block b V V).trans (a9.2 b hb),D.env.1.trans a9.env.1,D.env.2.2.trans a9.env.2⟩;by_cases C:a5=0;·have o:=z.out;rw[rG C]at o;clear z;subst C;subst o;obtain⟨cr,ck⟩:=H.r.trim a6 V;have R:=(a6.set 0 (.slice A q c)).set 1 (.int .i64 0);simp only[rC,rF]at R;have p:sa (w.heap.size+1) wr.heap.size wr ((wr.setCell ⟨w.heap.size+1,0,none⟩ (.slice A q c)).setCell ⟨w.heap.size+1,1,none⟩ (.int .i64 0)):=((sa.refl _ _ _).setAt 0 _).setAt 1 _;go_wp2_with fail;refine sc (KW rfl rfl rfl R) rfl ?_;have cs:=p.size;exact⟨A,q,c,rfl,cr.keep (fun b hb=>p.cell hb.1 hb.2) bP,⟨ck,cj⟩,⟨by have:=T.1;omega,fun b hb=>(p.block b V V).trans (T.2 b hb),p.env.1.trans T.env.1,p.env.2.2.trans T.env.2⟩⟩
     ·have o:=z.out;rw[rB C]at o;clear z;subst o;have cb:(a5==0)=false:=rA.2 C;have bn:decide (a5=0)=false:=rI C;go_upto_region 11 with fail;clear c2;refine sR (K:=Kb (fun b=>b=e.heap.size)) (Kb.keeps _) (sA.of [0,1,2,3,4,5,6] .nil) [5] bm bm bF bm bt (fun wd Z tj=> ?_);have Rd:=a6.below Z V;have c9:=(v.below Z v.lt).c2;have d1:=Z.size;have aa:sZ w wd:=T.trans (sZ.below Z);clear s0 s1 b9 c0 c1 Z tj;obtain⟨s0,s1,b9⟩:=Rd.LU;repeat((first|(refine tp rfl rfl rfl bo ?_)|(refine tF rfl rfl rfl ?_)|(refine tA rfl rfl rfl 0 rV _ (by intro w' hb;have d4:=(Kb.cell hb (q:=rN e.heap.size 2) (by simp)).trans c9;clear hb;go_simp;first|done|with_reducible rfl) ?_));simp only[Act.put,rH,rC,rF])
      refine se rfl rfl 0 rV (fun cy bv=> ?_);have R:=(Rd.set 0 (.slice none 0 0)).set 1 (.int .i64 0);simp only[rC,rF]at R;have p:sa (w.heap.size+1) wd.heap.size wd ((wd.setCell ⟨w.heap.size+1,0,none⟩ (.slice none 0 0)).setCell ⟨w.heap.size+1,1,none⟩ (.int .i64 0)):=((sa.refl _ _ _).setAt 0 _).setAt 1 _;go_wp2_with fail;refine bv _ _ (fun b hb=>p.block b V V) ?_;clear bv;refine aO ?_;refine sF ?_;go_wp2_with fail;refine sc (KW rfl rfl rfl R) rfl ?_;have cs:=p.size;exact Zl.nil w _ a5 ⟨by have:=aa.1;omega,fun b hb=>(p.block b V V).trans (aa.2 b hb),p.env.1.trans aa.env.1,p.env.2.2.trans aa.env.2⟩
abbrev vv(k i b:Int)(A:aft)(n c:Nat)(A':aft)(n' c':Nat)(a:aft)(e d:Nat):List Value:=[.int .i64 k,.int .i64 i,.int .u64 b,.slice A n c,.slice A' n' c',.slice a e d]
abbrev vz(k:Int):Go.Obj:=.cells #[.int .i64 k,.int .i64 0,.int .u64 0,.slice none 0 0,.slice none 0 0,.slice none 0 0] 27
def aaf{w:World}{r:Nat}{a b c d e f:Value}(h:Bx w r [a,b,c,d,e,f]):(loadVar 27 ⟨r,0,none⟩).run Tryz.prog w=.ok (.agg #[a,b,c,d,e,f]) w:=by obtain⟨i,j,k,l,m,o, -⟩:=h.xw;go_simp
def wR{j:Func}{p q:Tmp}{te:Value}(h:j.results= #[.cell p 27,.tmp q]){i:Array Value}{w:World}{r:Nat}{a b c d e f:Value}(hp:i.getD p undef=sg r)(hq:i.getD q undef=te)(m:Bx w r [a,b,c,d,e,f]):(results j i).run Tryz.prog w=.ok (.tuple #[.agg #[a,b,c,d,e,f],te]) w:=by have k:i[p]?.getD undef=sg r:=gg;have l:i[q]?.getD undef=te:=fY;simp only[results,h];simp[uJ,Result.andThen,k,l,asAddr,aaf m]
def SaP(w:World)(ok:Bool)(e:Ending)(w':World):Prop:=∃(k i b:Int)(A:aft)(n c:Nat)(A':aft)(n' c':Nat)(a:aft)(h d:Nat),e=.returned (.tuple #[.agg #[.int .i64 k,.int .i64 i,.int .u64 b,.slice A n c,.slice A' n' c',.slice a h d],.bool ok])/\afv w w'
def Md(k:Int)(j:J):Bool:=decide (j.kind=3)&&(!decide (k=3)||(decide (-2147483648<=j.int)&&decide (j.int<=2147483647)))
def BF(k:Int):Bool:=decide (k=9)||decide (k=11)||decide (k=12)||decide (k=13)
def Cc(k:Int)(w:World):Calls Tryz.prog 213 #[.int .i64 k] w (zW w (.bool (BF k))):=by
 have key:∀P:Prop,(k=9->P)->(k=11->P)->(k=12->P)->(k=13->P)->(k≠9->k≠11->k≠12->k≠13->P)->P:=fun P a b d i p=>
  by
   by_cases j:k=9;·exact a j
   by_cases l:k=11;·exact b l
   by_cases m:k=12;·exact d m
   by_cases o:k=13;·exact i o
   exact p j l m o
 refine key _ (fun h=> ?_) (fun h=> ?_) (fun h=> ?_) (fun h=> ?_) (fun a b d i=> ?_);iterate 4·subst h;go_enter Tryz.func213,Tryz.ntmps213;exact bI
 ·have e:BF k=false:=by unfold BF;simp[a,b,d,i]
  rw[e];have q:(k==9)=false:=rA.2 a;have t:(k==11)=false:=rA.2 b;have v:(k==12)=false:=rA.2 d;have x:(k==13)=false:=rA.2 i;go_enter Tryz.func213,Tryz.ntmps213;go_wp2_with fail;go_ret;exact⟨by first|rfl|simp[q,t,v,x],rfl⟩
def Uf(kind:Int)(I:kind=3\/kind=4\/kind=5\/kind=6)(j:J)(D: -9223372036854775808<=j.int)(E:j.int<=9223372036854775807)(w:World)(A:aft)(n c:Nat)(A':aft)(n' c':Nat):Calls Tryz.prog 214 #[.int .i64 kind,jA j.kind j.int ⟨j.text.toArray⟩ A n c A' n' c'] w (SaP w (Md kind j)):=by
 obtain⟨R,hR⟩:=sW (Md kind j);rw[<-hR];unfold Md at hR;have G:=fun w1=>Pro.Oe j.int D E w1
 have H:=fun w1=>Pro.Rp j.int D E w1
 generalize Pro.dbl j.int=x at*;generalize Pro.flt j.int=y at*;generalize j.text=l at*;generalize j.int=a at*;generalize j.kind=jk at*;have i:=rz hR;clear hR;have v:=(((afw w).al rV (jc jk a ⟨l.toArray⟩ A n c A' n' c')).alloc bA (vz 0)).alloc (by simp;omega) (vz kind);have m:=((Bx.new w #[.int .i64 jk,.int .i64 a,.string ⟨l.toArray⟩,.slice A n c,.slice A' n' c'] 60 w.heap.size rfl).below ((xn.al rV (vz 0)).alloc bA (vz kind)) bA);have t:=((Bx.new (w.alloc (jc jk a ⟨l.toArray⟩ A n c A' n' c')) #[.int .i64 0,.int .i64 0,.int .u64 0,.slice none 0 0,.slice none 0 0,.slice none 0 0] 27 (w.heap.size+1) bA).below (xn.al rV (vz kind)) bA);have o:Bx (((w.alloc (jc jk a ⟨l.toArray⟩ A n c A' n' c')).alloc (vz 0)).alloc (vz kind)) (w.heap.size+2) _:=Bx.new ((w.alloc (jc jk a ⟨l.toArray⟩ A n c A' n' c')).alloc (vz 0)) _ _ _ bA;have F:(((w.alloc (jc jk a ⟨l.toArray⟩ A n c A' n' c')).alloc (vz 0)).alloc (vz kind)).heap.size=w.heap.size+3:=bA;go_enter Tryz.func214,Tryz.ntmps214;go_upto_region 2 with fail;generalize((w.alloc _).alloc _).alloc _=w1 at*;have N:=rz F;have O:w.heap.size+3<=w1.heap.size:=V;clear F;obtain⟨b0,b1,b2,b3,b4, -⟩:=m.xe;obtain⟨v0,v1,v2,v3,v4,v5,vf⟩:=o.xw;rcases I with rfl|rfl|rfl|rfl
 ·have V2:=o.set 1 (.int .i64 a);simp only[rC,rF]at V2;have O2:sa (w.heap.size+2) w1.heap.size w1 (w1.setCell ⟨w.heap.size+2,1,none⟩ (.int .i64 a)):=(sa.refl _ _ _).setAt 1 _;have Gu:=v.setCell (p:=rN (w.heap.size+2) 1) bl (.int .i64 a);go_upto_region 6 with fail;generalize w1.setCell _ _=w2 at*;have J2:=m.off O2 V V;have R2:=t.off O2 V V;have hz2:=O2.size;refine sR (K:=Kb (fun b=>b=w.heap.size\/b=w.heap.size+2)) (Kb.keeps _) (sA.of [0,1,2,3,4,5,6,7,8,9,10,11,12,13,14,15] .nil) [14] bm bm bF bm bt (fun wd hd tj=> ?_);obtain⟨b0,b1,b2,b3,b4, -⟩:=(J2.below hd V).xe;obtain⟨v0,v1,v2,v3,v4,v5,vf⟩:=(V2.below hd V).xw;have Rd:=R2.below hd V;have Bv:=Gu.trans (hd.mono (B':=w.heap.size) V);have hzd:=hd.size;by_cases z:jk=3
  ·subst z;by_cases C: -2147483648<=a;·have y4:decide (-2147483648<=a)=true:=rY C;have hR:=i.out;rw[y4]at hR;simp only[wF,tM,uA,sk]at hR;have De:=rz hR;exact pm
   ·have y4:decide (-2147483648<=a)=false:=rI C;have hR:=i.out;rw[y4]at hR;simp only[wF,tM,uA,sk,tO]at hR;have De:=rz hR;exact pm
  ·have y3:(jk==3)=false:=rA.2 z;have hR:=i.out;rw[rI z,tO]at hR;have De:=rz hR;exact pm
 ·have hR:=i.out;rw[show(!decide ((4:Int)=3))=true from rfl,zA,xA]at hR;have De:=rz hR;clear hR;have V2:=o.set 1 (.int .i64 a);have O2:sa (w.heap.size+2) w1.heap.size w1 (w1.setCell ⟨w.heap.size+2,1,none⟩ (.int .i64 a)):=(sa.refl _ _ _).setAt 1 _;have Gu:=v.setCell (p:=rN (w.heap.size+2) 1) bl (.int .i64 a);go_upto_region 11 with fail;generalize w1.setCell _ _=w2 at*;have J2:=m.off O2 V V;have R2:=t.off O2 V V;exact lM
 ·have hR:=i.out;rw[show(!decide ((5:Int)=3))=true from rfl,zA,xA]at hR;have De:=rz hR;clear hR;go_wp2_with fail;refine sG (H w1) fun w3 e=> ?_
  have V3:=o.below e V;have J3:=m.below e V;have R3:=t.below e V;have M:=e.size;have B:=v.trans (e.mono (B':=w.heap.size) V);obtain⟨b0,b1,b2,b3,b4, -⟩:=J3.xe;obtain⟨v0,v1,v2,v3,v4,v5,vf⟩:=V3.xw;have V2:=V3.set 2 (.int .u64 (IntKind.u64.wrap (y:Int)));have O2:sa (w.heap.size+2) w3.heap.size w3 (w3.setCell ⟨w.heap.size+2,2,none⟩ (.int .u64 (IntKind.u64.wrap (y:Int)))):=(sa.refl _ _ _).setAt 2 _;have Gu:=B.setCell (p:=rN (w.heap.size+2) 2) bl (.int .u64 (IntKind.u64.wrap (y:Int)));exact pK
 ·have hR:=i.out;rw[show(!decide ((6:Int)=3))=true from rfl,zA,xA]at hR;have De:=rz hR;clear hR;go_wp2_with fail;refine sG (G w1) fun w3 e=> ?_
  have V3:=o.below e V;have J3:=m.below e V;have R3:=t.below e V;have M:=e.size;have B:=v.trans (e.mono (B':=w.heap.size) V);obtain⟨b0,b1,b2,b3,b4, -⟩:=J3.xe;obtain⟨v0,v1,v2,v3,v4,v5,vf⟩:=V3.xw;have V2:=V3.set 2 (.int .u64 (x:Int));have O2:sa (w.heap.size+2) w3.heap.size w3 (w3.setCell ⟨w.heap.size+2,2,none⟩ (.int .u64 (x:Int))):=(sa.refl _ _ _).setAt 2 _;have Gu:=B.setCell (p:=rN (w.heap.size+2) 2) bl (.int .u64 (x:Int));exact pK
def UP:Nat->afs->Nat->Option Nat
 |_,[],m=>some m
 |0,_::_,_=>none
 |f+1,x::r,m=>if(Ut.wu (x::r)).2.2≠0 then none else if 255<(Ut.wu (x::r)).1 then none else UP f ((x::r).drop (Ut.wu (x::r)).2.1) (m+1)
def MA(s:afs):Option Nat:=UP s.length s 0
def RR{f:Nat}{L:afs}{m:Nat}(h:L≠ []):UP (f+1) L m=if(Ut.wu L).2.2≠0 then none else if 255<(Ut.wu L).1 then none else UP f (L.drop (Ut.wu L).2.1) (m+1):=by
 cases L with
 |nil=>exact km
 |cons x r=>rfl
def RS(s:afs)(b6:s.length<=100000000)(w:World):Calls Tryz.prog 236 #[.string ⟨s.toArray⟩] w fun e w'=>∃(A:aft)(n c:Nat),e=.returned (.tuple #[.slice A n c,.bool (MA s).isSome])/\(∀m,MA s=some m->n=m)/\afv w w':=by
 obtain⟨R,o⟩:=sW (MA s);rw[<-o];unfold MA at o;have B:=rz o;clear o;go_enter Tryz.func236,Tryz.ntmps236;go_wp2_with fail;go_step3;go_wp2_with(refine Ao (t:=s) rfl rfl ?_;intro c1 w1 aU aa a4 b7);go_step3;go_wp2_with fail;go_loopw [5,6,7,8,9] (fun af z _ _ _ wr=>∃(a m f:Nat)(d:aft)(j:Nat)(Q:afs),z=.int .i64 a/\af=.slice d m j/\a<=s.length/\m<=a/\(m=0->a=0)/\s.length<=a+f/\R=UP f (s.drop a) m/\Mem.Own wr w1.heap.size d m j Q/\afv w wr/\afv w1 wr) (fun _ z _ _ _ _=>s.length-(intOf z).toNat);case atStart=>exact⟨0,0,s.length,none,0,[],rfl,rfl,sb _,rZ _,fun _=>rfl,V,B.out,Mem.Own.nil _ _,a4,Below.refl _ _⟩
 case
  round=>
   obtain⟨a,m,f,d,j,Q,rfl,rfl,az,b3,a7,b0,b,a8,wI,y⟩:=hrel;have l:=rz b;clear b B;have ab:=aa.sV y V;by_cases F:a<s.length
   ·have a2:(a:Int)<(s.length:Int):=V;have p:=Ut.M8 (some ⟨w.heap.size,0,none⟩) s.length c1 (w.heap.size+1) (a:Int) s wr ab V V V;rw[Ut.VX V,Ut.Pu V,Ut.VW V]at p;have M:s.drop a≠ []:=fun h=>by have:=CF List.length h;exact lw
    obtain⟨f,rfl⟩:∃Z,f=Z+1:=⟨f-1,V⟩;have b:=l.out;rw[RR M]at b;have v:=fun h=>Ut.Dt (L:=s.drop a) h
    rw[sU]at v;have H:∀k,(s.drop a).drop k=s.drop (a+k):=fun k=>by rw[Bf]
    rw[H]at b;generalize Ut.wu (s.drop a)=X at*;obtain⟨C,K,q⟩:=X;simp only at b v p;have i:=rz b;clear b l M H;go_wp2_with fail;refine tZ p ?_;clear p;by_cases E:q=0
    ·subst E;have b:=i.out;rw[rB bA]at b;obtain⟨b4,b5⟩:=v rfl;by_cases D:255<C
     ·rw[rG D]at b;have a1:(255:Int)<(C:Int):=V;clear i;subst b;have N:s≠ []:=fun h=>by rw[h]at F;simp at F
      have b8:(s== [])=false:=rA.2 N;have b9:s.isEmpty=false:=by cases s with|nil=>exact absurd rfl N|cons x r=>rfl
      exact iH
     ·rw[rB D]at b;have a1:¬(255:Int)<(C:Int):=V;have U:=rz b;clear b i;have O:(C:Int)=((UInt8.ofNat C).toNat:Int):=by simp;omega
      have W:=rz O;clear O;have bd:IntKind.u8.wrap (C:Int)=(C:Int):=bS;have a6:=y.size;have a3:=(Below.refl w1.heap.size wr).al a6 (.cells #[.int .u8 (C:Int)] 5);go_wp2_with(at_builtin;go_must(refine zb rfl rfl (a8.alloc _) rfl (rd_val wr (UInt8.ofNat C) _ W.out) V (by simp;omega) ?_);intro T Y be a9 a5);have G:=a3.trans a5;go_wp2_with fail;refine⟨⟨a+K,m+1,f,T,Y,_,bA,rfl,V,V,fun h=>V,V,U.out,a9,wI.trans (G.mono (B':=w.heap.size) V),y.trans G⟩,?_⟩;exact bN
    ·have b:=i.out;rw[rG E]at b;clear i;subst b;have an:((q:Int)==0)=false:=rA.2 V;have ar:decide ((q:Int)=0)=false:=rI V;exact iH
   ·obtain rfl:a=s.length:=V;have a2:¬(s.length:Int)<(s.length:Int):=V;have b:=l.out;rw[zB]at b;have b:R=some m:=by rw[b];cases f<;>rfl
    clear l;subst b;by_cases I:m=0;·have a0:=a7 I;have ad:s=[]:=rT a0;subst I;subst ad;go_wp2_with fail;go_ret2;exact⟨d,0,j,rfl,(fun m h=>by injection h),wI⟩
    ·have b1:(0:Int)<(m:Int):=V;have b2:0<m:=V;go_wp2_with fail;go_ret2;exact⟨d,m,j,rfl,(fun m h=>by injection h),wI⟩
def M9(x:Nd)(j:J):Bool:=if j.kind=4 then(if x.kind=8 then decide (j.text.length<=20000)else match MA j.text with|none=>false|some m=>decide (m<=20000)&&(decide (x.kind=7)||decide ((m:Int)=x.size)))else false
abbrev OK(x:Nd)(a:aft)(j c1:Nat)(b:aft)(k c2:Nat)(d:aft)(l h:Nat)(e:aft)(m i:Nat):Go.Obj:=nC x a j c1 b k c2 d l h e m i
def Ri(x:Nd)(o:aft)(D c1:Nat)(v:aft)(E c2:Nat)(y:aft)(F B:Nat)(z:aft)(G C:Nat)(j:J)(bs:j.text.length<=100000000)(w:World)(A:aft)(n c:Nat)(A':aft)(n' c':Nat):Calls Tryz.prog 217 #[nA x o D c1 v E c2 y F B z G C,jA j.kind j.int ⟨j.text.toArray⟩ A n c A' n' c'] w (SaP w (M9 x j)):=by
 obtain⟨R,a⟩:=sW (M9 x j);rw[<-a];unfold M9 at a;have b3:=fun w1=>RS j.text bs w1
 generalize j.text=e at*;generalize j.int=M at*;generalize j.kind=H at*;have i:=rz a;clear a;have b9:w.heap.size<(w.alloc (OK x o D c1 v E c2 y F B z G C)).heap.size:=bA;have bd:w.heap.size+1<((w.alloc (OK x o D c1 v E c2 y F B z G C)).alloc (jc H M ⟨e.toArray⟩ A n c A' n' c')).heap.size:=bA;have be:w.heap.size+2<(((w.alloc (OK x o D c1 v E c2 y F B z G C)).alloc (jc H M ⟨e.toArray⟩ A n c A' n' c')).alloc (vz 0)).heap.size:=bA;have bn:((((w.alloc (OK x o D c1 v E c2 y F B z G C)).alloc (jc H M ⟨e.toArray⟩ A n c A' n' c')).alloc (vz 0)).alloc (vz x.kind)).heap.size=w.heap.size+4:=bA;have a1:=(Bx.new w #[.int .i64 x.kind,.string ⟨x.name.toArray⟩,.slice o D c1,.slice v E c2,.slice y F B,.bool x.has,.string ⟨x.sL.toArray⟩,.int .i64 x.size,.int .i64 x.items,.slice z G C] 79 w.heap.size rfl).below (((xn.al rV (jc H M ⟨e.toArray⟩ A n c A' n' c')).alloc bA (vz 0)).alloc (by simp<;>omega) (vz x.kind)) b9;have bp:=(Bx.new (w.alloc (OK x o D c1 v E c2 y F B z G C)) #[.int .i64 H,.int .i64 M,.string ⟨e.toArray⟩,.slice A n c,.slice A' n' c'] 60 (w.heap.size+1) bA).below ((xn.al rV (vz 0)).alloc bA (vz x.kind)) bd;have X:=(Bx.new ((w.alloc (OK x o D c1 v E c2 y F B z G C)).alloc (jc H M ⟨e.toArray⟩ A n c A' n' c')) #[.int .i64 0,.int .i64 0,.int .u64 0,.slice none 0 0,.slice none 0 0,.slice none 0 0] 27 (w.heap.size+2) bA).below (xn.al rV (vz x.kind)) be;have Y:Bx ((((w.alloc (OK x o D c1 v E c2 y F B z G C)).alloc (jc H M ⟨e.toArray⟩ A n c A' n' c')).alloc (vz 0)).alloc (vz x.kind)) (w.heap.size+3) _:=Bx.new (((w.alloc (OK x o D c1 v E c2 y F B z G C)).alloc (jc H M ⟨e.toArray⟩ A n c A' n' c')).alloc (vz 0)) _ _ _ bA;have sK:=((((afw w).al rV (OK x o D c1 v E c2 y F B z G C)).alloc bA (jc H M ⟨e.toArray⟩ A n c A' n' c')).alloc (by simp<;>omega) (vz 0)).alloc (by simp<;>omega) (vz x.kind);clear b9 bd be;go_enter Tryz.func217,Tryz.ntmps217;go_upto_region 2 with fail;generalize(((w.alloc _).alloc _).alloc _).alloc _=w1 at*;have c4:=rz bn;have cb:w.heap.size+4<=w1.heap.size:=V;clear bn;have bk:∀W,sa (w.heap.size+3) w1.heap.size w1 W->Bx W w.heap.size (nL x o D c1 v E c2 y F B z G C)/\Bx W (w.heap.size+2) [.int .i64 0,.int .i64 0,.int .u64 0,.slice none 0 0,.slice none 0 0,.slice none 0 0]:=fun W h=>⟨a1.off h V V,X.off h V V⟩
 have c3:=rz bk;clear bk;obtain⟨m0,a4,a5,a6,a7,a8,a9,m7,aa,ab, -⟩:=a1.xX;obtain⟨b4,b5,b6,b7,b8, -⟩:=bp.xe;obtain⟨v0,v1,v2,v3,v4,v5,U⟩:=Y.xw;by_cases b1:H=4
 ·subst b1;have a:=i.out;rw[rG rfl]at a;clear i;by_cases a3:x.kind=8
  ·rw[rG a3]at a;have i:=rz a;clear a b3;rw[a3]at m0 v0;go_upto_region 6 with(refine Ao (t:=e) rfl rfl ?_;intro b0 af c8 c9 T cc;obtain⟨v0,v1,v2,v3,v4,v5,U⟩:=(Y.below T V).xw);have Z:=(Y.below T V).set 3 (.slice (some ⟨w1.heap.size,0,none⟩) e.length b0);simp only[rC,rF]at Z;have I:sa (w.heap.size+3) af.heap.size af (af.setCell ⟨w.heap.size+3,3,none⟩ (.slice (some ⟨w1.heap.size,0,none⟩) e.length b0)):=(sa.refl _ _ _).setAt 3 _;have bw:=T.size;have az:=(X.below T V).off I V V;have ar:=(a1.below T V).off I V V;have b2:=(sK.trans (T.mono (B':=w.heap.size) V)).setCell (p:=rN (w.heap.size+3) 3) bl (.slice (some ⟨w1.heap.size,0,none⟩) e.length b0);have bx:=I.size;generalize af.setCell _ _=W at*;clear m0 a4 a5 a6 a7 a8 a9 m7 aa ab b4 b5 b6 b7 b8 v0 v1 v2 v3 v4 v5 U I;refine sR (K:=Kb (fun b=>b=w.heap.size\/b=w.heap.size+3)) (Kb.keeps _) (sA.of [0,1,2,3,4,5,6] .nil) [5] bm bm bF bm bt (fun wd l tj=> ?_);obtain⟨m0,a4,a5,a6,a7,a8,a9,m7,aa,ab, -⟩:=(ar.below l V).xX;obtain⟨v0,v1,v2,v3,v4,v5,U⟩:=(Z.below l V).xw;have Rd:=az.below l V;have Bv:=b2.trans (l.mono (B':=w.heap.size) V);have bz:=l.size;clear l tj;refine aY ?_;obtain⟨s0,s1,s2,s3,s4,s5,rf⟩:=Rd.xw;refine se rfl rfl 0 rV (fun Q1 tv=> ?_);go_wp2_with fail;refine tv _ _ (fun b hb=> ?_) ?_;·exact lV
   clear tv;refine aO ?_;refine sF ?_;go_wp2_with fail;refine sc (wR rfl rfl rfl ((((((Rd.set 0 _).set 1 _).set 2 _).set 3 _).set 4 _).set 5 _)) rfl ?_;refine⟨_,_,_,_,_,_,_,_,_,_,_,_,by rw[i.out,show decide (e.length<=20000)=decide ((e.length:Int)<=20000)from zK.2 V];rfl,?_⟩;exact l7
  ·rw[rB a3]at a;have i:=rz a;clear a;have c7:(x.kind==8)=false:=rA.2 a3;go_wp2_with fail;refine(b3 w1).mono ?_;rintro e' ad ⟨an,N,aU,rfl,bv,O⟩;obtain⟨v0,v1,v2,v3,v4,v5,U⟩:=(Y.below O V).xw;go_upto_region 9 with fail;have Z:=(Y.below O V).set 3 (.slice an N aU);simp only[rC,rF]at Z;have I:sa (w.heap.size+3) ad.heap.size ad (ad.setCell ⟨w.heap.size+3,3,none⟩ (.slice an N aU)):=(sa.refl _ _ _).setAt 3 _;have bw:=O.size;have az:=(X.below O V).off I V V;have ar:=(a1.below O V).off I V V;have b2:=(sK.trans (O.mono (B':=w.heap.size) V)).setCell (p:=rN (w.heap.size+3) 3) bl (.slice an N aU);have bx:=I.size;generalize ad.setCell _ _=W at*;clear m0 a4 a5 a6 a7 a8 a9 m7 aa ab b4 b5 b6 b7 b8 v0 v1 v2 v3 v4 v5 U I;refine sR (K:=Kb (fun b=>b=w.heap.size\/b=w.heap.size+3)) (Kb.keeps _) (sA.of [0,1,2,3,4,5,6,7,8,9,10,11,12,13,14,15,16,17,18,19,20] .nil) [19] bm bm bF bm bt (fun wd l tj=> ?_);obtain⟨m0,a4,a5,a6,a7,a8,a9,m7,aa,ab, -⟩:=(ar.below l V).xX;obtain⟨v0,v1,v2,v3,v4,v5,U⟩:=(Z.below l V).xw;have Rd:=az.below l V;have Bv:=b2.trans (l.mono (B':=w.heap.size) V);have bz:=l.size;clear l tj;clear b3;cases a0:MA e with
   |none=>
    have a:=i.out;rw[a0]at a;simp only at a;have br:(MA e).isSome=false:=by rw[a0];rfl
    clear i;subst a;exact lT
   |some m=>
    have a:=i.out;rw[a0]at a;simp only at a;have br:(MA e).isSome=true:=by rw[a0];rfl
    obtain rfl:=bv m a0;clear i;by_cases bj:N<=20000
    ·have bO:(N:Int)<=20000:=V;rw[rY bj,sk]at a;by_cases a2:x.kind=7;·rw[rY a2,zA]at a;subst a;rw[a2]at m0;exact lT
     ·rw[rI a2,uA]at a;have c6:(x.kind==7)=false:=rA.2 a2;have i:=rz a;clear a;refine aY ?_;obtain⟨s0,s1,s2,s3,s4,s5,rf⟩:=Rd.xw;refine se rfl rfl 0 rV (fun Q1 tv=> ?_);go_wp2_with fail;refine tv _ _ (fun b hb=> ?_) ?_;·exact lV
      clear tv;refine aO ?_;refine sF ?_;go_wp2_with fail;refine sc (wR rfl rfl rfl ((((((Rd.set 0 _).set 1 _).set 2 _).set 3 _).set 4 _).set 5 _)) rfl ?_;refine⟨_,_,_,_,_,_,_,_,_,_,_,_,by rw[i.out];first|rfl|(by_cases h:(N:Int)=x.size<;>simp[h]),?_⟩;repeat' (first|with_reducible exact Bv|with_reducible refine Below.setCell ?_ bl _)
    ·have bO:¬(N:Int)<=20000:=V;rw[rI bj,tO]at a;subst a;exact lT
 ·have a:=i.out;rw[rB b1]at a;clear i;subst a;have c5:(H==4)=false:=rA.2 b1;have Rd:=X;obtain⟨s0,s1,s2,s3,s4,s5,rf⟩:=X.xw;go_wp2_with fail;refine sc (wR rfl rfl rfl ((((((Rd.set 0 _).set 1 _).set 2 _).set 3 _).set 4 _).set 5 _)) rfl ?_;refine⟨_,_,_,_,_,_,_,_,_,_,_,_,rfl,?_⟩;exact mF
inductive LI:J->Prop
 |mk {k i:Int} {t:afs} {l:List J} {ks:List afs} (h1: -9223372036854775808<=i) (h2:i<=9223372036854775807) (hi:∀x∈l,LI x):LI (.mk k i t l ks)
def Ly(j:J):Prop:=tS j/\LI j
def Ly.item{j x:J}(h:Ly j)(a:x∈j.items):Ly x:=⟨h.1.item a,by cases h.2 with|mk d e b=>exact b x a⟩
def Ly.int{j:J}(h:Ly j): -9223372036854775808<=j.int/\j.int<=9223372036854775807:=by cases h.2 with|mk a b d=>exact⟨a,b⟩
def Fo(a:Nat->J->Int->Bool×Int):List Fd->J->Int->Bool×Int
 | [],_,n=>(true,n)
 |f::r,j,n=>if has j f.name=true\/f.has=true then(if(a f.type.toNat (if has j f.name=true then getD j f.name else f.sL) n).1=true then Fo a r j (a f.type.toNat (if has j f.name=true then getD j f.name else f.sL) n).2 else(false,(a f.type.toNat (if has j f.name=true then getD j f.name else f.sL) n).2))else(false,n)
def Y3(a:J->Int->Bool×Int):List J->Int->Bool×Int
 | [],n=>(true,n)
 |i::r,n=>if(a i n).1=true then Y3 a r (a i n).2 else(false,(a i n).2)
def UF(a:J->Int->Bool×Int)(j:J)(n:Int):Bool×Int:=if(decide (300<j.items.length)||j.keys.any fun k=>decide (20000<k.length))=true then(false,n)else Y3 a j.items n
def xM(S:List Nd):Nat->Nat->J->Int->Bool×Int
 |0,_,_,n=>(false,n)
 |f+1,a,j,n=>
 match S[a]? with
 |none=>(false,n)
 |some x=>if((BF x.kind&&decide (f=0))||decide (1000<n+1))=true then(false,n+1)else if x.kind=1 then(decide (j.kind=1),n+1)else if x.kind=2 then(decide (j.kind=2),n+1)else if 3<=x.kind/\x.kind<=6 then(Md x.kind j,n+1)else if x.kind=10 then(decide (j.kind=4)&&decide (0<=HB x.symbols j.text),n+1)else if x.kind=9 then((Fo (xM S f) x.fields j (n+1)).1&&decide (j.kind=6),(Fo (xM S f) x.fields j (n+1)).2)else if x.kind=11 then((UF (xM S f x.items.toNat) j (n+1)).1&&decide (j.kind=5),(UF (xM S f x.items.toNat) j (n+1)).2)else if x.kind=12 then((UF (xM S f x.items.toNat) j (n+1)).1&&decide (j.kind=6),(UF (xM S f x.items.toNat) j (n+1)).2)else if x.kind=13 then xM S f ((x.rX.head?).getD 0).toNat j (n+1)else(M9 x j,n+1)
def SU(n:Int)(r:Bool×Int):Prop:=n<=r.2/\r.2<=1001/\(r.1=true->r.2<=1000)
def UE{e:J->Int->Bool×Int}(h:∀i n,n<=1000->SU n (e i n)):∀(l:List J)(n:Int),n<=1000->SU n (Y3 e l n)
 | [],n,b=>⟨Cz _,by simp only[Y3];omega,fun _=>b⟩
 |i::r,n,b=>
 by
  unfold Y3;have a:=h i n b;split;·rename_i j;have d:=UE h r _ (a.2.2 j);exact⟨Int.le_trans a.1 d.1,d.2⟩
  ·exact⟨a.1,a.2.1,fun h=>dM⟩
def Z8{a:J->Int->Bool×Int}(h:∀i n,n<=1000->SU n (a i n))(j:J)(n:Int)(b:n<=1000):SU n (UF a j n):=by
 unfold UF;split;·exact ow
 ·exact UE h _ _ b
def Qq{k:Nat->J->Int->Bool×Int}(h:∀a i n,n<=1000->SU n (k a i n)):∀(l:List Fd)(j:J)(n:Int),n<=1000->SU n (Fo k l j n)
 | [],_,n,d=>⟨Cz _,by simp only[Fo];omega,fun _=>d⟩
 |f::r,j,n,d=>
 by
  unfold Fo;generalize(if has j f.name=true then getD j f.name else f.sL)=v;have b:=h f.type.toNat v n d;split
  ·split;·rename_i m;have e:=Qq h r j _ (b.2.2 m);exact⟨Int.le_trans b.1 e.1,e.2⟩
   ·exact⟨b.1,b.2.1,fun h=>dM⟩
  ·exact ow
def La(S:List Nd):∀(f a:Nat)(j:J)(n:Int),n<=1000->SU n (xM S f a j n)
 |0,a,j,n,l=>⟨Cz _,by simp only[xM];omega,fun h=>dM⟩
 |f+1,a,j,n,l=>
 by
  have e:=fun a j n=>La S f a j n
  unfold xM;split;·exact ow
  ·split;·exact⟨bl,bl,fun h=>dM⟩
   ·rename_i k;have d:n+1<=1000:=by simp at k;omega
    have m:∀b:Bool,SU n (b,n+1):=fun b=>⟨bl,bl,fun _=>d⟩
    have two:∀(r:Bool×Int)(b:Bool),SU (n+1) r->SU n (r.1&&b,r.2):=fun r b h=>⟨by have:=h.1;exact bl,h.2.1,fun p=>h.2.2 (by cases q:r.1<;>simp_all)⟩
    have o:∀r:Bool×Int,SU (n+1) r->SU n r:=fun r h=>⟨lq,h.2⟩
    repeat' split
    all_goals
     first
      |exact m _
      |exact two _ _ (Qq (fun a i n=>e a i n) _ _ _ d)
      |exact two _ _ (Z8 (fun i n=>e _ i n) _ _ d)
      |exact o _ (e _ j (n+1) d)
def Vh{P:Program}{w:World}{H k n c:Nat}{e t ty:TypeId}{i:TypeInfo}{z:Value}{bytes:Nat}(K:P.underlying t=some (.slice e))(C:P.info? e=some i)(M:i.zero=some z)(I:i.size=k)(x:i.bytes=bytes)(N:z.cells.size=k)(D:0<k)(hb:bytes<=1000){A:aft}{xs:List Value}(h:w.ownsRow H e k (.slice A n c) n xs){cs:List Value}(E:cs.length=k)(p:∀u∈cs,u.oneCell'=true){q cap:Nat}(hq:∀j u,cs[j]? =some u->w.cell? (rN q j)=some u)(R:n<=100000000)(v:H<=w.heap.size):∃a c2 w',(Builtin.append_ #[t,t] ty #[.slice A n c,.slice (some ⟨q,0,none⟩) 1 cap]).run P w=.ok (.slice a (n+1) c2) w'/\w'.ownsRow H e k (.slice a (n+1) c2) (n+1) (xs++cs)/\Lu A w w'/\(a.map (·.block)=A.map (·.block)\/a.map (·.block)=some w.heap.size)/\(w'.os=w.os/\w'.tape=w.tape/\w'.output=w.output):=by
 obtain⟨O,w',G,g2,l,Q,o⟩:=vu (P:=P) w H t ty e i z k bytes K C M I x N D (.slice A n c) n xs h ⟨q,0,none⟩ 1 cap cs (by rw[E];omega) (fun j u hu=>eS) p dD eq v;have y:∃a c2,O=.slice a (n+1) c2:=cU;obtain⟨a,c2,rfl⟩:=y;have Lz:∀(B:aft)(m d:Nat),(Value.slice B m d).ownBlock=B.map (·.block):=fun B m d=>eI
 rw[Lz,Lz]at o;exact⟨a,c2,w',G,g2,⟨l.size,fun b hb F=>l.block b hb (fun he=>F fU)⟩,o,l.os,l.tape,l.output⟩
def EE{l:Array Oper}{m:Exit->Act->World->Prop}{y:List Oper}{a:Act}{w:World}{t ty e:TypeId}{H k n c:Nat}{A:aft}{xs cs:List Value}{b:Option Tmp}{s x:Operand}{v:String}{o:Array Edge}{p:Option (Nat×Bool)}(M:Region.wanted ⟨b,.call {callee:=.builtin .append,args:= #[s,x],argTypes:= #[t,t]},ty,v,o,p⟩ (yielded l a.tmps)=true){z:Value}{bytes:Nat}(I:Tryz.prog.underlying t=some (.slice e))(d:(Tryz.prog.info? e).map (fun i=>(i.zero,i.size,i.bytes))=some (some z,k,bytes))(R:z.cells.size=k)(D:0<k)(hb:bytes<=1000)(hs:a.eval s=.slice A n c){q cap:Nat}(hx:a.eval x=.slice (some ⟨q,0,none⟩) 1 cap)(h:w.ownsRow H e k (.slice A n c) n xs)(E:cs.length=k)(B:∀u∈cs,u.oneCell'=true)(G:∀j u,cs[j]? =some u->w.cell? (rN q j)=some u)(F:n<=100000000)(C:H<=w.heap.size)(hh:∀A2 c2 w',w'.ownsRow H e k (.slice A2 (n+1) c2) (n+1) (xs++cs)->Lu A w w'->(A2.map (·.block)=A.map (·.block)\/A2.map (·.block)=some w.heap.size)->(w'.os=w.os/\w'.tape=w.tape/\w'.output=w.output)->wpList Tryz.prog l m y (a.put b (.slice A2 (n+1) c2)) w'):wpList Tryz.prog l m (⟨b,.call {callee:=.builtin .append,args:= #[s,x],argTypes:= #[t,t]},ty,v,o,p⟩::y) a w:=by
 obtain⟨i0,d,N,O,Q⟩:=xG d;refine tG M fun K hK=> ?_
 obtain⟨A2,c2,w',IS,h2,h3,h4,h5⟩:=Vh (P:=Tryz.prog) (ty:=ty) I d N O Q R D hb h E B (cap:=cap) G F C;exact cB
def UA:(Tryz.prog.info? 27).map (fun i=>(i.zero,i.size,i.bytes))=some (some (.agg #[.int .i64 0,.int .i64 0,.int .u64 0,.slice none 0 0,.slice none 0 0,.slice none 0 0]),6,96):=bm
abbrev vc(k i b:Int)(A:aft)(n c:Nat)(A':aft)(n' c':Nat)(a:aft)(e d:Nat):Go.Obj:=.cells #[.int .i64 k,.int .i64 i,.int .u64 b,.slice A n c,.slice A' n' c',.slice a e d] 27
def SyP(w:World)(g:Nat)(A:aft)(n c:Nat)(r:Bool×Int)(e:Ending)(w':World):Prop:=∃(k i b:Int)(B:aft)(m d:Nat)(B':aft)(l h:Nat)(a:aft)(o j:Nat),e=.returned (.tuple #[.agg #[.int .i64 k,.int .i64 i,.int .u64 b,.slice B m d,.slice B' l h,.slice a o j],.bool r.1])/\Cx w g A n c r.2 w'
def TA(S:List Nd)(f:Nat):Prop:=∀(a:Nat)(j:J)(h:Int)(d:Nat),d+f=21->1<=f->a<S.length->0<=h->h<=1000->Ly j->∀(w:World)(g:Nat)(A:aft)(n c:Nat)(X:afu)(k i:Int)(t:ByteArray)(B:aft)(m e:Nat)(B':aft)(l e':Nat),BW w g A n c h->tJ w X A n S->uq w X (jv k i t B m e B' l e') j->(∀b,X b->b<w.heap.size/\b≠g)->Calls Tryz.prog 168 #[sg g,.int .i64 (a:Int),jA k i t B m e B' l e',.int .i64 (d:Int)] w (SyP w g A n c (xM S f a j h))
def ItP(w:World)(g:Nat)(A:aft)(n c:Nat)(r:Bool×Int)(e:Ending)(w':World):Prop:=∃(B:aft)(m d:Nat),e=.returned (.tuple #[.slice B m d,.bool r.1])/\Cx w g A n c r.2 w'
def MC(s:afs)(w:World):Calls Tryz.prog 235 #[.string ⟨s.toArray⟩] w (vh w (.bool (decide (20000<s.length)))):=by have a:decide (20000<s.length)=decide ((20000:Int)<(s.length:Int)):=zK.2 V;rw[a];go_enter Tryz.func235,Tryz.ntmps235;exact fa
def Hn(S:List Nd)(f d:Nat)(ed:d+f=21)(eg:1<=f)(ea:TA S f)(x:Nd)(bv:aft)(d3 c1:Nat)(bw:aft)(d4 c2:Nat)(bx:aft)(d5 cc:Nat)(bz:aft)(d6 cf:Nat)(j:J)(en:Ly j)(R:Int)(eb:0<=R)(ec:R<=1000)(f5:0<=x.items/\x.items<(S.length:Int))(w:World)(g:Nat)(A:aft)(n c:Nat)(X:afu)(k i:Int)(t:ByteArray)(B:aft)(m e:Nat)(B':aft)(b0 e':Nat)(a:BW w g A n c R)(f4:tJ w X A n S)(es:uq w X (jv k i t B m e B' b0 e') j)(hX:∀b,X b->b<w.heap.size/\b≠g):Calls Tryz.prog 216 #[sg g,nA x bv d3 c1 bw d4 c2 bx d5 cc bz d6 cf,jA k i t B m e B' b0 e',.int .i64 (d:Int)] w (ItP w g A n c (UF (xM S f x.items.toNat) j R)):=by
 obtain⟨⟨rfl,rfl,rfl⟩,⟨g8,r1,r2,g0⟩,et,gd,gf,gc,f0⟩:=es.inv;have HL:=rz (show j.items.length=m from jr);obtain⟨e4,bd⟩:=sW (j.keys.any fun k=>decide (20000<k.length));obtain⟨e2,l⟩:=sW (UF (xM S f x.items.toNat) j R);rw[<-l];unfold UF at l;rw[<-bd,HL.out]at l;obtain⟨q,E⟩:∃q:Nat,x.items=(q:Int):=⟨x.items.toNat,V⟩;have f3:q<S.length:=V;rw[E,su]at l;have F:=rz l;have c5:=rz E;have dr:=rz bd;clear l f5 bd;have ek:=a.lt;have H:=((afw w).al rV (OK x bv d3 c1 bw d4 c2 bx d5 cc bz d6 cf)).alloc bA (jc j.kind j.int ⟨j.text.toArray⟩ B m e B' b0 e');have b5:=H.I8;have b4:=H.Kj;have d0:=H.s2;clear E;go_enter Tryz.func216,Tryz.ntmps216;go_upto_region 1 with fail;generalize(w.alloc _).alloc _=w1 at*;have g7:=rz d0;have gk:w.heap.size+2<=w1.heap.size:=V;clear d0;have af:=a.below H ek;have f7:=et.keep (Y:=X) (fun q E=>H.cell (hX _ E).1) ug;have aU:=Be 235 (enters_of Tryz.func235 bm rfl) #[] (fun k=>decide (20000<k.length)) j.keys w1 X B' b0 e' f7 dL f0 (fun x _ w' _=>MC x w');rw[<-dr.out]at aU;obtain⟨f8,f9,fb,fc,ff,fi,fj,fl,ab,fm, -⟩:=b5.xX;obtain⟨c6,c7,c8,c9,cb, -⟩:=b4.xe;rw[c5.out]at ab;by_cases cv:300<m;·have e9:(300:Int)<(m:Int):=V;have l:=F.out;rw[rY cv,zA,rG rfl]at l;clear F aU;subst l;go_wp2_with fail;go_ret2;exact⟨none,0,0,rfl,af,sa.of H⟩
 ·have e9:¬(300:Int)<(m:Int):=V;have l:=F.out;rw[rI cv,uA]at l;have ar:=rz l;clear l F;go_wp2_with fail;refine sG aU fun C aa=> ?_
  clear aU;have gn:=aa.size;have b1:=af.below aa af.lt;have a6:sa g w.heap.size w C:=sa.of (H.trans (aa.mono (B':=w.heap.size) V));cases e4 with
  |true=>have l:=ar.out;rw[rG rfl]at l;clear ar;subst l;go_wp2_with fail;go_ret2;exact⟨none,0,0,rfl,b1,a6⟩
  |false=>
   have l:=ar.out;rw[rB bH]at l;have F:=rz l;clear ar l;have dz:=b5.below aa V;obtain⟨c6,c7,c8,c9,cb, -⟩:=(b4.below aa V).xe;go_wp2_with fail;clear f8 f9 fb fc ff fi fj fl fm c6 c7 c8 c9 cb ab b5 b4 af;go_loopw [10,27] (fun g1 br wr=>∃(p:Nat)(D:Int)(ad:aft)(az:Nat)(df:List Value),br=.int .i64 p/\p<=m/\g1=.slice ad p az/\wr.ownsRow C.heap.size 27 6 (.slice ad p az) p df/\e2=Y3 (xM S f q) (j.items.drop p) D/\(0<=D/\D<=1000)/\BW wr g A n c D/\sa g C.heap.size C wr) (fun _ br _=>m-(intOf br).toNat);case atStart=>exact⟨0,R,none,0,[],rfl,sb _,rfl,uH _ _ _ _,F.out,⟨eb,ec⟩,b1,sa.refl _ _ _⟩
   case
    round=>
     obtain⟨p,D,ad,az,df,rfl,gi,rfl,cE,o,be,b3,a7⟩:=hrel;have gz:=a7.size;have v:=rz o;clear o F;have ei:=b3.lt;by_cases cZ:p<m
     ·have f2:(p:Int)<(m:Int):=V;obtain⟨a9,h2,y,d2,d1,d9,bO,d7,ch,c3,d8,ci,rfl,el,hy,em,cj,ck,cp,cr,ct⟩:=zr r1 r2 g0 cZ;have bj:=hX a9 el;have T:∀q,wr.cell? (rN a9 q)=w.cell? (rN a9 q):=fun q=>(a7.cell (p:=rN a9 q) bl bj.2).trans (a6.cell (p:=rN a9 q) bj.1 bj.2)
      have fn:=(T _).trans cj;have ft:=(T _).trans ck;have fx:=(T _).trans cp;have fE:=(T _).trans cr;have fS:=(T _).trans ct;clear cj ck cp cr ct T;have YX:p<j.items.length:=by rw[HL.out];exact cZ
      have bp:j.items[p]=y:=lf;have f6:=en.item (bp▸sj YX:y∈j.items);have cz:j.items.drop p=y::j.items.drop (p+1):=by rw[rM YX,bp]
      have o:=v.out;rw[cz,Y3]at o;have an:=rz o;clear o v cz bp hy YX;have O:=(afw wr).al rV (jc d2 d1 d9 bO d7 ch c3 d8 ci);have e5:=O.yg;have gl:=O.l1;have e0:=dz.off a7 V V;go_upto_region 7 with fail;generalize wr.alloc _=bs at*;have dj:=b3.below O ei;have b6:sa g C.heap.size C bs:=a7.sY V (sa.of O);have b7:sa g w.heap.size w bs:=a6.sY V b6;have bn:=ea q y D d ed eg f3 be.1 be.2 f6 bs g A n c X d2 d1 d9 bO d7 ch c3 d8 ci dj (f4.keep (fun q E=>b7.cell (hX _ E).1 (hX _ E).2) ug) (em.xh b7 hX) (fun b hb=>⟨by have:=(hX b hb).1;have:=b7.size;omega,(hX b hb).2⟩);have bk:=La S f q y D be.2;obtain⟨e3,cx⟩:=sW (xM S f q y D);have o:=an.out;rw[<-cx]at bn bk o;have v:=rz o;clear o an cx;obtain⟨ok,e7⟩:=e3;have ab:=(e0.below O V).c 8 _ rfl;rw[c5.out]at ab;obtain⟨g2,g3,g4,g5,g6, -⟩:=e5.xe;go_wp2_with fail;refine bn.mono ?_;rintro g9 Z ⟨W,U,Q,M,a0,a3,N,a1,a4,V3,a2,a5,rfl,b2,b8⟩;clear bn g2 g3 g4 g5 g6 fn ft fx fE fS ab;simp only at b2;have e1:sa g C.heap.size C Z:=b6.sY (by have:=b6.size;omega) b8;have go:=b8.size;have cR:=vF (w':=Z) cE (fun b hb=>by have e8:=vr cE hb;exact(b8.block b V V).trans (O.block b e8.2));have a8:=(afw Z).al rV (vc W U Q M a0 a3 N a1 a4 V3 a2 a5);have ds:=a8.yg;have cS:=vF (w':=Z.alloc (vc W U Q M a0 a3 N a1 a4 V3 a2 a5)) cR (fun b hb=>a8.block b (vr cR hb).2);go_upto_region 8 with fail;generalize Z.alloc _=I at*;have c4:=b2.below a8 b2.lt;have K:=e1.sY V (sa.of a8);have gr:=a8.size;have ga:=K.size;cases ok with
      |false=>have o:=v.out;rw[rB bH]at o;clear v;subst o;go_wp2_with fail;go_ret2;exact⟨none,0,0,rfl,c4,a6.sY V K⟩
      |true=>
       have o:=v.out;rw[rG rfl]at o;have an:=rz o;clear v o;obtain⟨i0,gA,gR,gW,h0,h1, -⟩:=ds.xw;have G:=(afw I).al rV (vc W U Q M a0 a3 N a1 a4 V3 a2 a5);have dx:=G.yg;have cW:=vF (w':=I.alloc (vc W U Q M a0 a3 N a1 a4 V3 a2 a5)) cS (fun b hb=>G.block b (vr cS hb).2);have gs:I.heap.size<=(I.alloc (vc W U Q M a0 a3 N a1 a4 V3 a2 a5)).heap.size:=G.size;obtain⟨t0,t1,t2,t3,t4',t5', -⟩:=dx.xw;go_wp2_with(at_builtin;go_must(refine EE (z:=.agg #[.int .i64 0,.int .i64 0,.int .u64 0,.slice none 0 0,.slice none 0 0,.slice none 0 0]) (bytes:=96) (cs:=[.int .i64 W,.int .i64 U,.int .u64 Q,.slice M a0 a3,.slice N a1 a4,.slice V3 a2 a5]) rfl Tryz.underlying24 UA rfl V V rfl rfl cW rfl dq (fun j u hu=>fD) V (by simp;omega) ?_);intro di e6 dd f1 cA gb b9);have cy:∀b,b<C.heap.size->dd.heap[b]? =I.heap[b]?:=fun b hb=>(cA.2 b (by simp;omega) (fun ef=>by have:=(vr cW ef).1;omega)).trans (G.block b V)
       have gx:I.heap.size<=dd.heap.size:=by have:=cA.1;exact lw
       have dp:=c4.keep V (cy g (by have:=b1.lt;omega));go_wp2_with fail;refine⟨⟨p+1,e7,di,e6,_,bA,V,rfl,f1,an.out,⟨by have:=bk.1;exact dJ,bk.2.2 rfl⟩,dp,?_⟩,?_⟩;·exact⟨⟨b9.1.trans (G.os.trans K.env.1),b9.2.1.trans (G.tape.trans K.env.2.1),b9.2.2.trans (G.output.trans K.env.2.2)⟩,V,fun b hb eh=>(cy b hb).trans (K.block b hb eh)⟩
       ·exact bN
     ·obtain rfl:p=m:=V;have f2:¬(p:Int)<(p:Int):=V;have o:=v.out;rw[sx da,Y3]at o;clear v;subst o;go_wp2_with fail;go_ret2;exact⟨ad,p,az,rfl,b3,a6.sY V a7⟩
