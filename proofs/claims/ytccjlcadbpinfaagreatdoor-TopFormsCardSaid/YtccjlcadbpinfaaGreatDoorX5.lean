import Derived.Test.YtccjlcadbpinfaaGreatDoorX2
import Derived.Test.YtccjlcadbpinfaaGreatDoorX3
import Derived.Deep.CutBlock
import Derived.Laws.BitsLemmas
set_option linter.all false
set_option maxRecDepth 100000
set_option maxHeartbeats 4000000
namespace Go.Proofs.YtccjlcadbpinfaaGreatDoor.Tp
open ChangeShapes WideShapes ChangeAt RowKit
open Num Mem Can
def wP(w:World)(g:Nat)(A:acN)(n c:Nat)(a e:Int)(A':acN)(m d:Nat):Prop:=(w.cell? ⟨g,0,none⟩=some (.slice A n c)/\w.cell? ⟨g,1,none⟩=some (.int .i64 a)/\w.cell? ⟨g,2,none⟩=some (.int .i64 e)/\w.cell? ⟨g,3,none⟩=some (.slice A' m d))/\w.frozen? ⟨g,1,none⟩=false/\w.frozen? ⟨g,2,none⟩=false/\w.frozen? ⟨g,3,none⟩=false
def wP.below{w w':World}{g B:Nat}{A A':acN}{n c m d:Nat}{a e:Int}(h:wP w g A n c a e A' m d)(hb:Below B w w')(b:g<B):wP w' g A n c a e A' m d:=⟨⟨(hb.cell b).trans h.1.1,(hb.cell b).trans h.1.2.1,(hb.cell b).trans h.1.2.2.1,(hb.cell b).trans h.1.2.2.2⟩,(hb.frozen b).trans h.2.1,(hb.frozen b).trans h.2.2.1,(hb.frozen b).trans h.2.2.2⟩
def yR(c:UInt8)(w:World):Calls Tryz.prog 192 #[.int .u8 (c.toNat:Int)] w fun e w'=>e=.returned (.bool (vr c))/\w=w':=by unfold vr;go_enter Tryz.func192,Tryz.ntmps192;exact da
def wF(c:UInt8):Bool:=decide ((48<=c.toNat/\c.toNat<=57)\/(97<=c.toNat/\c.toNat<=122)\/(65<=c.toNat/\c.toNat<=90))
def AU(c:UInt8)(w:World):Calls Tryz.prog 196 #[.int .u8 (c.toNat:Int)] w fun e w'=>e=.returned (.bool (wF c))/\w=w':=by
 have a:=yR c w;have e:wF c=(vr c||decide ((97<=c.toNat/\c.toNat<=122)\/(65<=c.toNat/\c.toNat<=90))):=by unfold wF vr;rw[zR];simp
 rw[e];generalize vr c=b at*;clear e;cases b;·go_enter Tryz.func196,Tryz.ntmps196;go_wp2_with fail;refine a.mono ?_;rintro e w1 ⟨rfl,rfl⟩;clear a;exact da
 ·go_enter Tryz.func196,Tryz.ntmps196;go_wp2_with fail;refine a.mono ?_;rintro e w1 ⟨rfl,rfl⟩;clear a;exact mz
def pk(xs:acM)(a:Nat):UInt8:=xs.getD a 0
def ur(g:Nat)(A A':acN)(n c m d B a:Nat)(e:Int)(xs:acM)(w:World)(q:wP w g A n c a e A' m d)(C:g<w.heap.size)(o:Rd w B A n xs)(N:B<=g)(U:n<=1000000000)(O:a<=n):Calls Tryz.prog 197 #[.pointer (some ⟨g,0,none⟩)] w fun e' w'=>e'=.returned (.int .u8 ((pk xs a).toNat:Int))/\acP w w':=by
 have T:=o.len;have j:=rq q;by_cases h:a<n
 ·obtain⟨f,r,x,rfl,R,D,z⟩:=o.at_ h;have i:pk xs a=x:=by unfold pk;simp[List.getD,D]
  rw[i];have S:(a:Int)<n:=V;have G:decide ((a:Int)<n)=true:=iE;have t:=rq z;clear q D i z o;go_enter Tryz.func197,Tryz.ntmps197;go_wp2_with fail;refine su [0,1,2,3,4,5,6,7,8,9] [] bg bg bi bg (fun _ _ d _ _ h=>bw) (fun wd b sW=> ?_);have FK:=rq (wP.below j.out b C);have v:=rq ((b.cell (p:=⟨f,r+a,none⟩) bd).trans t.out);have K:g<wd.heap.size:=V;have y:acP w wd:=b;clear b sW j t;refine ae ?_;refine sn ?_;go_wp2_with fail;refine su [0,1,2,3,4,5,6,7,8,9,10] [] bg bg bi bg (fun _ _ d _ _ h=>bw) (fun L l I=> ?_);have E:=rq (wP.below FK.out l K);have F:=rq ((l.cell (p:=⟨f,r+a,none⟩) bd).trans v.out);have H:acP w L:=y.sV rT l;clear l I FK v y;repeat((first|(refine sJ rfl rfl rfl bh ?_)|(refine sN rfl rfl rfl ?_)|(refine sM rfl rfl rfl (g+1) V _ (by intro w' hb;obtain⟨⟨z0,z1,z2,z3⟩,_,_,_⟩:=wP.below E.out hb V;have W:=(hb.cell (p:=⟨f,r+a,none⟩) bd).trans F.out;clear hb;go_simp;first|done|with_reducible rfl) ?_));simp only[Act.put,rB,rz,rA])
  refine sn ?_;go_wp2;go_ret;exact⟨rfl,H⟩
 ·have i:pk xs a=0:=l7;rw[i];have G:decide ((a:Int)<n)=false:=by simp;omega
  have M:decide (a<n)=false:=by simp;omega
  clear q i o h;go_enter Tryz.func197,Tryz.ntmps197;go_wp2_with fail;refine su [0,1,2,3,4,5,6,7,8,9] [] bg bg bi bg (fun _ _ d _ _ h=>bw) (fun wd b sW=> ?_);have FK:=rq (wP.below j.out b C);clear sW j;refine ae ?_;refine sn ?_;go_wp2;go_ret;exact⟨rfl,b⟩
def uy(g:Nat)(A A':acN)(n c m d:Nat)(a e b:Int)(w:World)(i:wP w g A n c a e A' m d)(k:g<w.heap.size):Calls Tryz.prog 198 #[.pointer (some ⟨g,0,none⟩),.int .i64 b] w fun e' w'=>e'=.returned (.tuple #[])/\wP w' g A n c a (if e=0 then b else e) A' m d/\rS g w.heap.size w w':=by
 obtain⟨⟨q,r,t,v⟩,l,o,p⟩:=i;by_cases h:e=0;·subst h;rw[rv rfl];exact mI
 ·rw[ru h];have j:(e==0)=false:=iE;exact mI
def xV(N:Int)(O:Bool)(c:UInt8):Int×Bool:=if N<Int.tdiv (-9223372036854775808+((c.toNat:Int)-48)) 10 then(N,true)else(N*10-((c.toNat:Int)-48),O)
def zo:acM->Int->Bool->Int×Bool×Nat
 | [],N,O=>(N,O,0)
 |c::r,N,O=>if vr c=true then((zo r (xV N O c).1 (xV N O c).2).1,(zo r (xV N O c).1 (xV N O c).2).2.1,(zo r (xV N O c).1 (xV N O c).2).2.2+1)else(N,O,0)
def L4:∀(l:acM)(N:Int)(O:Bool),(zo l N O).2.2<=l.length
 | [],_,_=>rN _
 |c::r,N,O=>
 by
  unfold zo;split;·simp only[rM];have:=L4 r (xV N O c).1 (xV N O c).2;omega
  ·simp
def Hi{N:Int}{O:Bool}{c:UInt8}(b: -9223372036854775808<=N)(e:N<=0)(a:vr c=true): -9223372036854775808<=(xV N O c).1/\(xV N O c).1<=0:=by
 unfold vr at a;simp only[rQ]at a;unfold xV;have g:48<=(c.toNat:Int):=V;have i:(c.toNat:Int)<=57:=V;clear a;generalize(c.toNat:Int)=d at*;split;·exact⟨b,e⟩
 ·rename_i h;simp only;have:Int.tdiv (-9223372036854775808+(d-48)) 10= -((9223372036854775808-(d-48))/10):=by rw[show(-9223372036854775808+(d-48):Int)= -(9223372036854775808-(d-48))from V,Int.neg_tdiv,Int.tdiv_eq_ediv_of_nonneg V]
  omega
def xA(xs:acM)(a:Nat):Nat:=if pk xs a=45 then a+1 else a
def NU(xs:acM)(a:Nat):Int×Bool×Nat:=zo (xs.drop (xA xs a)) 0 false
def EL(xs:acM)(a:Nat):Nat:=xA xs a+(NU xs a).2.2
def U8(xs:acM)(a:Nat):Int:=let k:=(NU xs a).2.2;let c:=pk xs (EL xs a);if k=0\/(1<k/\pk xs (xA xs a)=48)then 20 else if c=46\/c=101\/c=69 then 22 else if wF c=true then 20 else if(NU xs a).2.1=true\/(pk xs a≠45/\(NU xs a).1= -9223372036854775808)then 22 else 0
def QU(xs:acM)(a:Nat):Int:=if pk xs a=45 then(NU xs a).1 else wrap64 (-(NU xs a).1)
def Xc{xs:acM}{a:Nat}(h:a<xs.length):xs[a]? =some (pk xs a):=by unfold pk;simp[List.getD,h]
def Hk{xs:acM}{a:Nat}(h:vr (pk xs a)=true):a<xs.length:=by
 rcases sX a xs.length with b|b;·exact b
 ·unfold pk at h;rw[List.getD,ta b]at h;exact absurd h bD
def I1{xs:acM}{a:Nat}{N:Int}{O:Bool}(h:vr (pk xs a)=true):zo (xs.drop a) N O=((zo (xs.drop (a+1)) (xV N O (pk xs a)).1 (xV N O (pk xs a)).2).1,(zo (xs.drop (a+1)) (xV N O (pk xs a)).1 (xV N O (pk xs a)).2).2.1,(zo (xs.drop (a+1)) (xV N O (pk xs a)).1 (xV N O (pk xs a)).2).2.2+1):=by have e:=Hk h;obtain⟨b,d⟩:=rK.1 (Xc e);rw[rH b,d,zo,rv h]
def I2{xs:acM}{a:Nat}{N:Int}{O:Bool}(h:vr (pk xs a)=false):zo (xs.drop a) N O=(N,O,0):=by
 rcases sX a xs.length with b|b;·obtain⟨d,e⟩:=rK.1 (Xc b);rw[rH d,e,zo,ru iE]
 ·rw[th b];rfl
def tG{n:Int}(a: -9223372036854775808<=n)(b:n<=9223372036854775807):wrap64 n=n:=by unfold wrap64;omega
def Sq(w:World)(g:Nat):Nat:=match w.cell? ⟨g,1,none⟩with|some v=>(intOf v).toNat|none=>0
def yl{w:World}{g:Nat}{A A':acN}{n c m d a:Nat}{e:Int}(h:wP w g A n c (a:Int) e A' m d):Sq w g=a:=by unfold Sq;rw[h.1.2.1];rfl
def Dk(xs:acM)(F k:Nat)(N:Int)(O:Bool):Prop:=zo (xs.drop F) 0 false=((zo (xs.drop (F+k)) N O).1,(zo (xs.drop (F+k)) N O).2.1,(zo (xs.drop (F+k)) N O).2.2+k)
def NW(g:Nat)(A A':acN)(n c m d B a:Nat)(xs:acM)(w:World)(a8:wP w g A n c a 0 A' m d)(ar:g<w.heap.size)(a6:Rd w B A n xs)(r:B<=g)(L:n<=1000000000)(bO:a<=n):Calls Tryz.prog 193 #[.pointer (some ⟨g,0,none⟩)] w fun e' w'=>e'=.returned (.int .i64 (QU xs a))/\wP w' g A n c (EL xs a) (U8 xs a) A' m d/\rS g w.heap.size w w':=by
 have d9:=a6.len;by_cases H:pk xs a=45
 ·have ac:xA xs a=a+1:=by unfold xA;rw[rv H]
  have d8:a<n:=by
   rcases sX a n with h|h;·exact h
   ·unfold pk at H;rw[List.getD,ta V]at H;exact absurd H bD
  have HF:=rq ac;go_enter Tryz.func193,Tryz.ntmps193;go_wp2_with fail;refine(ur g A A' n c m d B a 0 xs w a8 ar a6 r L bO).mono ?_;rintro e' w1 ⟨rfl,De⟩;rw[H];have d1:=a8.below De ar;obtain⟨⟨r0,r1,r2,r3⟩,k1,k2,k3⟩:=d1;clear a8 ac;go_upto_block 0 with fail;have b7:wP (w1.setCell ⟨g,1,none⟩ (.int .i64 ((a:Int)+1))) g A n c ((a+1:Nat):Int) 0 A' m d:=⟨⟨bf,bf,bf,bf⟩,bf,bf,bf⟩;have bj:rS g w.heap.size w (w1.setCell ⟨g,1,none⟩ (.int .i64 ((a:Int)+1))):=(rS.of De).setAt 1 _;have bn:g<(w1.setCell ⟨g,1,none⟩ (.int .i64 ((a:Int)+1))).heap.size:=by have:=De.size;simp;omega
  rw[show((a:Int)+1)=((a+1:Nat):Int)from bi]at*;clear r0 r1 r2 r3 k1 k2 k3 De;generalize w1.setCell ⟨g,1,none⟩ (.int .i64 ((a+1:Nat):Int))=d4 at*;have cl:a+1<=n:=V;generalize a+1=F at*;go_cut [5,6]from 7 to 46 (fun bv bx ab=>∃(k:Nat)(N:Int)(O:Bool),bv=.int .i64 N/\bx=.bool O/\ -9223372036854775808<=N/\N<=0/\F+k<=n/\zo (xs.drop F) 0 false=(N,O,k)/\wP ab g A n c ((F+k:Nat):Int) 0 A' m d/\rS g w.heap.size w ab/\g<ab.heap.size);case
   first
    =>
     go_wp2_with fail;go_loopw [5,6,7] (fun s a9 _ wr=>∃(k:Nat)(N:Int)(O:Bool),s=.int .i64 N/\a9=.bool O/\ -9223372036854775808<=N/\N<=0/\F+k<=n/\Dk xs F k N O/\wP wr g A n c ((F+k:Nat):Int) 0 A' m d/\rS g w.heap.size w wr/\g<wr.heap.size) (fun _ _ _ wr=>n-Sq wr g);case atStart=>exact⟨0,0,false,rfl,rfl,V,V,V,rfl,b7,bj,bn⟩
     case
      round=>
       obtain⟨k,N,O,rfl,rfl,a0,a1,q,j,z,t,U⟩:=hrel;have T:=a6.off t V r;have a5:=yl z;by_cases l:vr (pk xs (F+k))=true
       ·have cz:F+k<n:=by have:=Hk l;omega
        have x:=I1 (N:=N) (O:=O) l;have an:=Hi (O:=O) a0 a1 l;have a4:=l;unfold vr at a4;simp only[rQ]at a4;unfold Dk at j;rw[x]at j;have X:=rq j;have c7:=rq x;have b8:=rq an;have Y:=rq l;have W:=rq a5;have cS:48<=((pk xs (F+k)).toNat:Int):=V;have d0:((pk xs (F+k)).toNat:Int)<=57:=V;have S:=z;clear j x an l a4 a5;go_wp2_with fail;refine(ur g A A' n c m d B (F+k) 0 xs wr z U T r L q).mono ?_;rintro e' C ⟨rfl,vX⟩;have K:=S.below vX U;have b1:=T.tw vX V;have I:g<C.heap.size:=dm;have G:=t.trans ((rS.of vX (g:=g)).mono t.size);clear vX;go_wp2_with fail;refine(yR (pk xs (F+k)) C).mono ?_;rintro e' bz ⟨rfl,rfl⟩;rw[Y.out];go_wp2_with fail;refine(ur g A A' n c m d B (F+k) 0 xs C K I b1 r L q).mono ?_;rintro e' aa ⟨rfl,Q⟩;have bp:=K.below Q I;have b2:g<aa.heap.size:=by have:=Q.size;omega
        have af:=G.trans ((rS.of Q (g:=g)).mono G.size);obtain⟨⟨r0,r1,r2,r3⟩,k1,k2,k3⟩:=bp;clear Q K b1 I G z S t T;have i:Dk xs F (k+1) (xV N O (pk xs (F+k))).1 (xV N O (pk xs (F+k))).2:=by unfold Dk;rw[X.out,show F+(k+1)=F+k+1 from V,zL _ 1 k,Gj 1 k]
        have o:=b8.out;by_cases b0:N<Int.tdiv (-9223372036854775808+(((pk xs (F+k)).toNat:Int)-48)) 10
        ·have E:xV N O (pk xs (F+k))=(N,true):=by unfold xV;rw[rv b0]
         rw[E]at i o;have Z:=rq i;clear E i;generalize((pk xs (F+k)).toNat:Int)=v at*;go_wp2_with fail;have i:=Z.out;have e5:((F+(k+1):Nat):Int)=(F:Int)+k+1:=V;have D:wP (aa.setCell ⟨g,1,none⟩ (.int .i64 ((F:Int)+k+1))) g A n c ((F+(k+1):Nat):Int) 0 A' m d:=bN;refine⟨⟨k+1,N,true,rfl,rfl,o.1,o.2,V,i,D,af.setAt 1 _,by simpa using b2⟩,?_⟩;rw[yl D,W.out];omega
        ·have E:xV N O (pk xs (F+k))=(N*10-(((pk xs (F+k)).toNat:Int)-48),O):=by unfold xV;rw[ru b0]
         rw[E]at i o;have Z:=rq i;clear E i;simp only at o;generalize((pk xs (F+k)).toNat:Int)=v at*;have d3:wrap64 (N*10)=N*10:=tG V V;have d5:wrap64 (N*10-(v-48))=N*10-(v-48):=tG V V;go_wp2_with fail;have i:=Z.out;have e5:((F+(k+1):Nat):Int)=(F:Int)+k+1:=V;have D:wP (aa.setCell ⟨g,1,none⟩ (.int .i64 ((F:Int)+k+1))) g A n c ((F+(k+1):Nat):Int) 0 A' m d:=bN;refine⟨⟨k+1,(N*10-(v-48)),O,rfl,rfl,o.1,o.2,V,i,D,af.setAt 1 _,by simpa using b2⟩,?_⟩;rw[yl D,W.out];omega
       ·have a3:vr (pk xs (F+k))=false:=by simpa using l
        have x:=I2 (N:=N) (O:=O) a3;unfold Dk at j;rw[x]at j;simp only[sY]at j;have X:=rq j;have Y:=rq a3;have S:=z;clear j x l a3 a5;go_wp2_with fail;refine(ur g A A' n c m d B (F+k) 0 xs wr z U T r L q).mono ?_;rintro e' C ⟨rfl,vX⟩;have K:=S.below vX U;have I:g<C.heap.size:=dm;have G:=t.trans ((rS.of vX (g:=g)).mono t.size);clear vX;go_wp2_with fail;refine(yR (pk xs (F+k)) C).mono ?_;rintro e' bz ⟨rfl,rfl⟩;rw[Y.out];go_wp2_with fail;go_meet;exact⟨k,N,O,rfl,rfl,a0,a1,q,X.out,K,G,I⟩
  case
   rest=>
    obtain⟨k,N,O,rfl,rfl,a0,a1,q,W0,U5,a2,b3⟩:=hcut;have W6:EL xs a=F+k:=by unfold EL NU;rw[HF.out,W0]
    have M:U8 xs a=if k=0\/(1<k/\pk xs F=48)then 20 else if pk xs (F+k)=46\/pk xs (F+k)=101\/pk xs (F+k)=69 then 22 else if wF (pk xs (F+k))=true then 20 else if O=true\/(pk xs a≠45/\N= -9223372036854775808)then 22 else 0:=kS;have ad:QU xs a=N:=by unfold QU NU;rw[HF.out,W0];rw[rv H]
    have W3:=a6.off a2 V r;have IS:=fun(h:F<n)=>W3.at_ (k:=F) h
    obtain⟨zz,a7⟩:∃zz,zz=F+k:=⟨_,rfl⟩;rw[<-a7]at W6 M q U5;have be:=M;have HE:=rq M;have HV:=rq ad;have RV:=rq W6;have Y3:=rq a7;have cp:F<=zz:=V;clear M be ad W6 a7 W0;have aU:=fun w=>AU (pk xs zz) w
    have cx:=(pk xs zz).toNat_lt;go_wp2_with fail;refine(ur g A A' n c m d B zz 0 xs wc U5 b3 W3 r L q).mono ?_;rintro e' w7 ⟨rfl,R⟩;have JS:=U5.below R b3;have RG:g<w7.heap.size:=by have:=R.size;omega
    have zl:=a2.trans ((rS.of R (g:=g)).mono a2.size);have br:=JS;obtain⟨⟨r0,r1,r2,r3⟩,k1,k2,k3⟩:=br;by_cases q1:zz=F
    ·have Xd:k=0:=fQ;have hq:zz=F:=q1;have b9:((zz:Int)==F)=true:=by simp[q1]
     exact cg
    ·have Xd:¬k=0:=fQ;have bs:F<n:=V;have b9:((zz:Int)==F)=false:=by simp;omega
     have cf:(zz==F)=false:=by simp;omega
     obtain⟨f,a9,y,rfl,cy,b4,ak⟩:=IS bs;have b6:pk xs F=y:=by unfold pk;simp[List.getD,b4]
     have cr:=(R.cell (p:=⟨f,a9+F,none⟩) bd).trans ak;clear IS ak b4 W3 U5;rw[b6]at HE;have d2:=y.toNat_lt;by_cases q2:1<k/\y=48
     ·have ch:decide ((F:Int)+1<zz)=true:=by have:=Y3.out;simp;omega
      have ci:(F:Int)+1<zz:=fQ;exact ce
     ·have RU:=rq (show¬(k=0\/(1<k/\y=48))from fun h=>h.elim Xd q2);have bk:(¬(F:Int)+1<zz)\/((F:Int)+1<zz/\¬(y.toNat:Int)=48):=eu;clear q2;have D0:=aU w7;clear aU;have c8:True:=trivial;rcases bk with h|⟨h,cj⟩;all_goals
       generalize ct:pk xs zz=b at*;have c6:=rq (show True from trivial);by_cases c1:b=46;·exact cD
       by_cases c2:b=101;·exact cw
       by_cases c3:b=69;·exact cA
       have YI:=rq (show¬(b=46\/b=101\/b=69)from fun h=>h.elim c1 (fun h=>h.elim c2 c3));have c9:((b.toNat:Int)==46)=false:=rr.2 (fun e=>c1 (tC.1 (show b.toNat=46 from V)));have cb:((b.toNat:Int)==101)=false:=rr.2 (fun e=>c2 (tC.1 (show b.toNat=101 from V)));have cc:((b.toNat:Int)==69)=false:=rr.2 (fun e=>c3 (tC.1 (show b.toNat=69 from V)));clear c1 c2 c3;by_cases c4:wF b=true;·exact bU
       have Xj:=rq c4;rw[show wF b=false by simpa using c4]at D0;clear c4;cases O;·go_wp2_with fail;refine D0.mono ?_;rintro e' w9 ⟨rfl,rfl⟩;go_wp2_with fail;go_ret;exact⟨mU,by rw[RV.out,HE.out];rw[ru RU.out,ru YI.out,ru Xj.out,ru (by simp[H])];exact JS,zl⟩
       ·exact bV
 ·have ac:xA xs a=a:=by unfold xA;rw[ru H]
  have HF:=rq ac;have W:=rq H;have dd:((((pk xs a).toNat:Nat):Int)==45)=false:=rr.2 (fun e=>H (tC.1 (show(pk xs a).toNat=45 from V)));go_enter Tryz.func193,Tryz.ntmps193;go_wp2_with fail;refine(ur g A A' n c m d B a 0 xs w a8 ar a6 r L bO).mono ?_;rintro e' w1 ⟨rfl,De⟩;have b7:=a8.below De ar;have bj:rS g w.heap.size w w1:=rS.of De;have bn:g<w1.heap.size:=gP;obtain⟨⟨r0,r1,r2,r3⟩,k1,k2,k3⟩:=a8.below De ar;clear a8 ac De;generalize cs:(((pk xs a).toNat:Nat):Int)=d7 at*;clear cs;go_upto_block 0 with fail;clear r0 r1 r2 r3 k1 k2 k3;generalize w1=d4 at*;have cl:a<=n:=V;go_cut [5,6]from 7 to 46 (fun bv bx ab=>∃(k:Nat)(N:Int)(O:Bool),bv=.int .i64 N/\bx=.bool O/\ -9223372036854775808<=N/\N<=0/\a+k<=n/\zo (xs.drop a) 0 false=(N,O,k)/\wP ab g A n c ((a+k:Nat):Int) 0 A' m d/\rS g w.heap.size w ab/\g<ab.heap.size);case
   first
    =>
     go_wp2_with fail;go_loopw [5,6,7] (fun s a9 _ wr=>∃(k:Nat)(N:Int)(O:Bool),s=.int .i64 N/\a9=.bool O/\ -9223372036854775808<=N/\N<=0/\a+k<=n/\Dk xs a k N O/\wP wr g A n c ((a+k:Nat):Int) 0 A' m d/\rS g w.heap.size w wr/\g<wr.heap.size) (fun _ _ _ wr=>n-Sq wr g);case atStart=>exact⟨0,0,false,rfl,rfl,V,V,V,rfl,b7,bj,bn⟩
     case
      round=>
       obtain⟨k,N,O,rfl,rfl,a0,a1,q,j,z,t,U⟩:=hrel;have T:=a6.off t V r;have a5:=yl z;by_cases l:vr (pk xs (a+k))=true
       ·have cz:a+k<n:=by have:=Hk l;omega
        have x:=I1 (N:=N) (O:=O) l;have an:=Hi (O:=O) a0 a1 l;have a4:=l;unfold vr at a4;simp only[rQ]at a4;unfold Dk at j;rw[x]at j;have X:=rq j;have c7:=rq x;have b8:=rq an;have Y:=rq l;have W:=rq a5;have cS:48<=((pk xs (a+k)).toNat:Int):=V;have d0:((pk xs (a+k)).toNat:Int)<=57:=V;have S:=z;clear j x an l a4 a5;go_wp2_with fail;refine(ur g A A' n c m d B (a+k) 0 xs wr z U T r L q).mono ?_;rintro e' C ⟨rfl,vX⟩;have K:=S.below vX U;have b1:=T.tw vX V;have I:g<C.heap.size:=dm;have G:=t.trans ((rS.of vX (g:=g)).mono t.size);clear vX;go_wp2_with fail;refine(yR (pk xs (a+k)) C).mono ?_;rintro e' bz ⟨rfl,rfl⟩;rw[Y.out];go_wp2_with fail;refine(ur g A A' n c m d B (a+k) 0 xs C K I b1 r L q).mono ?_;rintro e' aa ⟨rfl,Q⟩;have bp:=K.below Q I;have b2:g<aa.heap.size:=by have:=Q.size;omega
        have af:=G.trans ((rS.of Q (g:=g)).mono G.size);obtain⟨⟨r0,r1,r2,r3⟩,k1,k2,k3⟩:=bp;clear Q K b1 I G z S t T;have i:Dk xs a (k+1) (xV N O (pk xs (a+k))).1 (xV N O (pk xs (a+k))).2:=by unfold Dk;rw[X.out,show a+(k+1)=a+k+1 from V,zL _ 1 k,Gj 1 k]
        have o:=b8.out;by_cases b0:N<Int.tdiv (-9223372036854775808+(((pk xs (a+k)).toNat:Int)-48)) 10
        ·have E:xV N O (pk xs (a+k))=(N,true):=by unfold xV;rw[rv b0]
         rw[E]at i o;have Z:=rq i;clear E i;generalize((pk xs (a+k)).toNat:Int)=v at*;go_wp2_with fail;have i:=Z.out;have e5:((a+(k+1):Nat):Int)=(a:Int)+k+1:=V;have D:wP (aa.setCell ⟨g,1,none⟩ (.int .i64 ((a:Int)+k+1))) g A n c ((a+(k+1):Nat):Int) 0 A' m d:=bN;refine⟨⟨k+1,N,true,rfl,rfl,o.1,o.2,V,i,D,af.setAt 1 _,by simpa using b2⟩,?_⟩;rw[yl D,W.out];omega
        ·have E:xV N O (pk xs (a+k))=(N*10-(((pk xs (a+k)).toNat:Int)-48),O):=by unfold xV;rw[ru b0]
         rw[E]at i o;have Z:=rq i;clear E i;simp only at o;generalize((pk xs (a+k)).toNat:Int)=v at*;have d3:wrap64 (N*10)=N*10:=tG V V;have d5:wrap64 (N*10-(v-48))=N*10-(v-48):=tG V V;go_wp2_with fail;have i:=Z.out;have e5:((a+(k+1):Nat):Int)=(a:Int)+k+1:=V;have D:wP (aa.setCell ⟨g,1,none⟩ (.int .i64 ((a:Int)+k+1))) g A n c ((a+(k+1):Nat):Int) 0 A' m d:=bN;refine⟨⟨k+1,(N*10-(v-48)),O,rfl,rfl,o.1,o.2,V,i,D,af.setAt 1 _,by simpa using b2⟩,?_⟩;rw[yl D,W.out];omega
       ·have a3:vr (pk xs (a+k))=false:=by simpa using l
        have x:=I2 (N:=N) (O:=O) a3;unfold Dk at j;rw[x]at j;simp only[sY]at j;have X:=rq j;have Y:=rq a3;have S:=z;clear j x l a3 a5;go_wp2_with fail;refine(ur g A A' n c m d B (a+k) 0 xs wr z U T r L q).mono ?_;rintro e' C ⟨rfl,vX⟩;have K:=S.below vX U;have I:g<C.heap.size:=dm;have G:=t.trans ((rS.of vX (g:=g)).mono t.size);clear vX;go_wp2_with fail;refine(yR (pk xs (a+k)) C).mono ?_;rintro e' bz ⟨rfl,rfl⟩;rw[Y.out];go_wp2_with fail;go_meet;exact⟨k,N,O,rfl,rfl,a0,a1,q,X.out,K,G,I⟩
  case
   rest=>
    obtain⟨k,N,O,rfl,rfl,a0,a1,q,W0,U5,a2,b3⟩:=hcut;have W6:EL xs a=a+k:=by unfold EL NU;rw[HF.out,W0]
    have M:U8 xs a=if k=0\/(1<k/\pk xs a=48)then 20 else if pk xs (a+k)=46\/pk xs (a+k)=101\/pk xs (a+k)=69 then 22 else if wF (pk xs (a+k))=true then 20 else if O=true\/(pk xs a≠45/\N= -9223372036854775808)then 22 else 0:=kS;have ad:QU xs a=wrap64 (-N):=by unfold QU NU;rw[HF.out,W0];rw[ru H]
    have W3:=a6.off a2 V r;have IS:=fun(h:a<n)=>W3.at_ (k:=a) h
    obtain⟨zz,a7⟩:∃zz,zz=a+k:=⟨_,rfl⟩;rw[<-a7]at W6 M q U5;have be:=M;have HE:=rq M;have HV:=rq ad;have RV:=rq W6;have Y3:=rq a7;have cp:a<=zz:=V;clear M be ad W6 a7 W0;have aU:=fun w=>AU (pk xs zz) w
    have cx:=(pk xs zz).toNat_lt;go_wp2_with fail;refine(ur g A A' n c m d B zz 0 xs wc U5 b3 W3 r L q).mono ?_;rintro e' w7 ⟨rfl,R⟩;have JS:=U5.below R b3;have RG:g<w7.heap.size:=by have:=R.size;omega
    have zl:=a2.trans ((rS.of R (g:=g)).mono a2.size);have br:=JS;obtain⟨⟨r0,r1,r2,r3⟩,k1,k2,k3⟩:=br;by_cases q1:zz=a
    ·have Xd:k=0:=fQ;have hq:zz=a:=q1;have b9:((zz:Int)==a)=true:=by simp[q1]
     exact cg
    ·have Xd:¬k=0:=fQ;have bs:a<n:=V;have b9:((zz:Int)==a)=false:=by simp;omega
     have cf:(zz==a)=false:=by simp;omega
     obtain⟨f,a9,y,rfl,cy,b4,ak⟩:=IS bs;have b6:pk xs a=y:=by unfold pk;simp[List.getD,b4]
     have cr:=(R.cell (p:=⟨f,a9+a,none⟩) bd).trans ak;clear IS ak b4 W3 U5;rw[b6]at HE;have d2:=y.toNat_lt;by_cases q2:1<k/\y=48
     ·have ch:decide ((a:Int)+1<zz)=true:=by have:=Y3.out;simp;omega
      have ci:(a:Int)+1<zz:=fQ;exact ce
     ·have RU:=rq (show¬(k=0\/(1<k/\y=48))from fun h=>h.elim Xd q2);have bk:(¬(a:Int)+1<zz)\/((a:Int)+1<zz/\¬(y.toNat:Int)=48):=eu;clear q2;have D0:=aU w7;clear aU;have c8:True:=trivial;rcases bk with h|⟨h,cj⟩;all_goals
       generalize ct:pk xs zz=b at*;have c6:=rq (show True from trivial);by_cases c1:b=46;·exact cD
       by_cases c2:b=101;·exact cw
       by_cases c3:b=69;·exact cA
       have YI:=rq (show¬(b=46\/b=101\/b=69)from fun h=>h.elim c1 (fun h=>h.elim c2 c3));have c9:((b.toNat:Int)==46)=false:=rr.2 (fun e=>c1 (tC.1 (show b.toNat=46 from V)));have cb:((b.toNat:Int)==101)=false:=rr.2 (fun e=>c2 (tC.1 (show b.toNat=101 from V)));have cc:((b.toNat:Int)==69)=false:=rr.2 (fun e=>c3 (tC.1 (show b.toNat=69 from V)));clear c1 c2 c3;by_cases c4:wF b=true;·exact bU
       have Xj:=rq c4;rw[show wF b=false by simpa using c4]at D0;clear c4;cases O
       ·by_cases b5:N= -9223372036854775808;·subst b5;go_wp2_with fail;refine D0.mono ?_;rintro e' w9 ⟨rfl,rfl⟩;go_wp2_with fail;refine(uy g _ A' n c m d (zz:Int) 0 22 w7 JS RG).mono ?_;rintro e' w8 ⟨rfl,G2,NC⟩;have Nz:=NC.mono zl.size;rw[rv rfl]at G2;clear r0 r1 r2 r3 k1 k2 k3;go_wp2_with fail;go_ret;exact⟨mU,by rw[RV.out,HE.out];rw[ru RU.out,ru YI.out,ru Xj.out,rv (.inr ⟨by first|exact W.out|(rw[<-b6];exact W.out),ng⟩)];exact G2,zl.trans Nz⟩
        ·have d6:(N== -9223372036854775808)=false:=by simp[b5]
         have c5:=rq b5;clear b5;go_wp2_with fail;refine D0.mono ?_;rintro e' w9 ⟨rfl,rfl⟩;go_wp2_with fail;go_ret;exact⟨mU,by rw[RV.out,HE.out];rw[ru RU.out,ru YI.out,ru Xj.out,ru (by simp;exact fun _=>c5.out)];exact JS,zl⟩
       ·exact bV
