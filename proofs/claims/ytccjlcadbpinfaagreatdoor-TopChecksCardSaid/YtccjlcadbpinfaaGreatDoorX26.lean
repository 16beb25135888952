import Derived.Test.YtccjlcadbpinfaaGreatDoorX24
import Derived.Test.YtccjlcadbpinfaaGreatDoorX25
set_option linter.all false
set_option maxRecDepth 100000
set_option maxHeartbeats 16000000
namespace Go.Proofs.YtccjlcadbpinfaaGreatDoor.Tp
open ChangeShapes WideShapes ChangeAt RowKit
open Num Mem Can
section
variable(o r i g c:Nat)(K j M:Value)(f:Nat)(lb:Array Value)(S R:List Nd)(x v root:Int)(w:World)
def C0(S:List Nd):Bool:=decide (2500<Zu S)
def Jn(X:afu)(hX:∀b,X b->b<w.heap.size)(A:aft)(n c:Nat)(p:CQ w X A n S)(m:n<=9223372036854775807):Calls Tryz.prog 44 #[.agg #[.slice A n c,.int .i64 root]] w (vh w (.bool (C0 S))):=by
 have e:=(afw w).al rV (sC A n c root);have g:=e.yg;have v:=e.s1;obtain⟨R,d⟩:=sW (C0 S);rw[<-d];unfold C0 at d;have a:=rz d;clear d;go_enter Tryz.func44,Tryz.ntmps44;go_upto_region 1 with fail;generalize w.alloc _=w1 at*;have i:=T7 S root w1 X bq A n c (p.keep fun q o=>e.cell (hX _ o)) m;have r:=g.c 0 _ rfl;have t:=g.c 1 _ rfl;go_wp2_with fail;refine sG i fun x l=> ?_
 clear i;have j:=e.sY V l;generalize Zu S=k at*;by_cases h:2500<k
 ·obtain rfl:R=true:=by rw[a.out,rY h]
  clear a;go_wp2_with fail;go_ret;exact⟨rfl,j⟩
 ·obtain rfl:R=false:=by rw[a.out,rI h]
  clear a;go_wp2_with fail;go_ret;exact⟨jg,j⟩
def Fe(S R:List Nd):Bool:=C0 S||(C0 R||(decide (40<S.length)||decide (40<R.length)))
def Oq(X:afu)(hX:∀b,X b->b<w.heap.size)(A:aft)(n c:Nat)(B:CQ w X A n S)(G:n<=9223372036854775807)(A':aft)(n' c':Nat)(C:CQ w X A' n' R)(H:n'<=9223372036854775807):Calls Tryz.prog 15 #[.agg #[.slice A n c,.int .i64 x],.agg #[.slice A' n' c',.int .i64 v]] w (vh w (.bool (Fe S R))):=by
 have d:=((afw w).al rV (sC A n c x)).alloc bA (sC A' n' c' v);have p:=d.I8;have D:=d.Kj;have M:=d.s2;obtain⟨a,g⟩:=sW (Fe S R);rw[<-g];unfold Fe at g;rw[B.len,C.len]at g;have HV:=rz g;clear g;go_enter Tryz.func15,Tryz.ntmps15;go_upto_region 1 with fail;generalize(w.alloc _).alloc _=l at*;have r:∀b,X b->b<l.heap.size:=fun b hb=>bC
 have z:=Jn S x l X r A n c (B.keep fun q i=>d.cell (hX _ i)) G;have e:=fun m(hb:Below l.heap.size l m)=>Jn R v m X (fun b I=>rS (r b I) hb.size) A' n' c' ((C.keep fun q i=>d.cell (hX _ i)).keep fun q i=>hb.cell (r _ i)) H
 generalize C0 S=F at*;generalize C0 R=y at*;have j:=p.c 0 _ rfl;have k:=p.c 1 _ rfl;go_wp2_with fail;refine sG z fun m vb=> ?_
 clear z j k;have hb:=d.sY V vb;cases F with
 |true=>obtain rfl:a=true:=cT;clear HV e;exact dS
 |false=>
  have Lv:=rz (show a=(y||(decide (40<n)||decide (40<n')))from by rw[HV.out,uA]);have e:=e m vb;clear HV;have o:=D.below vb V;have E:=p.below vb V;have j:=o.c 0 _ rfl;have k:=o.c 1 _ rfl;go_wp2_with fail;refine sG e fun N t=> ?_
  clear e j k;have Iw:=hb.sY de t;cases y with
  |true=>obtain rfl:a=true:=ls;exact iE
  |false=>
   have j:=(o.below t de).c 0 _ rfl;have k:=(E.below t de).c 0 _ rfl;by_cases K:(40:Int)<(n:Int)
   ·obtain rfl:a=true:=by rw[Lv.out,rY (show 40<n from V)];rfl
    exact iE
   ·by_cases L:(40:Int)<(n':Int)
    ·obtain rfl:a=true:=by rw[Lv.out,rI (show¬40<n from V),rY (show 40<n' from V)];rfl
     exact iE
    ·obtain rfl:a=false:=by rw[Lv.out,rI (show¬40<n from V),rI (show¬40<n' from V)];rfl
     clear Lv;go_wp2_with fail;go_ret;exact⟨by simp;omega,Iw⟩
def Pa{S:List Nd}{root:Int}(h:root≠0):ur S root=false:=by unfold ur xH;rw[rI h];simp
def N8(d:root≠0)(j:∀x∈S,PH x)(w:World)(e:uI w)(X:afu)(A:aft)(n c:Nat)(i:tJ w X A n S)(hX:∀b,X b->b<w.heap.size)(g:n<=100000000):Calls Tryz.prog 27 #[.agg #[.slice A n c,.int .i64 root]] w (vh w (.int .i64 2)):=by
 have sK:=(afw w).al rV (sC A n c root);have S1:=sK.yg;have k:=sK.l1;go_enter Tryz.func27,Tryz.ntmps27;go_upto_region 1 with fail;generalize w.alloc _=w1 at*;have a:=yp S root w1 X A n c (i.below sK hX) bq g (e.below sK) j;rw[Pa d]at a;have s0:=S1.c 0 _ rfl;have s1:=S1.c 1 _ rfl;go_wp2_with fail;refine sG a fun l Gu=> ?_
 clear a;exact dG
def Pe(a:root≠0)(i:∀x∈S,PH x)(w:World)(d:uI w)(X:afu)(A:aft)(n c:Nat)(g:tJ w X A n S)(hX:∀b,X b->b<w.heap.size)(e:n<=100000000):Calls Tryz.prog 16 #[.agg #[.slice A n c,.int .i64 root]] w (vh w (.bool false)):=by have sK:=(afw w).al rV (sC A n c root);have BS:=sK.yg;go_enter Tryz.func16,Tryz.ntmps16;go_upto_region 1 with fail;have j:=sK.s1;generalize w.alloc _=w1 at*;have hC:=N8 S root a i w1 (d.below sK) X A n c (g.below sK hX) bq e;exact oo
def SB(S:List Nd)(root:Int):Bool:=decide (root=0)&&decide (vK S=0)
def Qt(i:TD S)(w:World)(a:uI w)(X:afu)(A:aft)(n c:Nat)(g:tJ w X A n S)(d:∀b,X b->b<w.heap.size)(e:n<=100000000):Calls Tryz.prog 16 #[.agg #[.slice A n c,.int .i64 root]] w (vh w (.bool (SB S root))):=by
 unfold SB;by_cases h:root=0;·subst h;rw[rY rfl,sk];exact EU S i w a X A n c g d e
 ·rw[rI h,tO];exact Pe S root h i.nd w a X A n c g d e
def NY(A A':aft)(n c n' c' B:Nat)(xs a:afs)(w:World)(h:Rd w B A n xs)(b:Rd w B A' n' a):Calls Tryz.prog 96 #[.slice A n c,.slice A' n' c'] w (zW w (.bool (xs==a))):=by go_enter Tryz.func96,Tryz.ntmps96;go_wp2_with(first|(with_reducible refine zy rfl rfl h ?_)|(with_reducible refine zy rfl rfl b ?_));go_ret;exact bK
def OC(A A':aft)(n c n' c':Nat)(own xs:afs)(a:aft)(e d:Nat)(h:Int)(b B:Nat)(w:World)(j:Rd w B A n own)(g:B<=w.heap.size)(l:w.cell? (rN b 0)=some (.slice A' n' c'))(hb:b<w.heap.size)(k:Rd w B A' n' xs):Calls Tryz.prog 95 #[.agg #[.slice a e d,.int .i64 0,.slice A n c,.int .u64 h],sg b] w (vh w (.bool (own==xs))):=by have sK:=(afw w).al rV (.cells #[.slice a e d,.int .i64 0,.slice A n c,.int .u64 h] 103);have o:=(Bx.new w #[.slice a e d,.int .i64 0,.slice A n c,.int .u64 h] 103 w.heap.size rfl).c 2 _ rfl;have m:=sK.cl l hb;go_enter Tryz.func95,Tryz.ntmps95;go_upto_region 1 with fail;generalize w.alloc _=w1 at*;have i:=NY A A' n c n' c' B own xs w1 (j.sV sK g) (k.sV sK g);go_wp2_with fail;refine tZ i ?_;clear i;exact bL
def RP(A:aft)(c:Nat)(w:World):Calls Tryz.prog 94 #[.slice A 0 c,.func (.func f) #[] lb] w (zW w (.int .i64 (-1))):=by go_enter Tryz.func94,Tryz.ntmps94;exact ev
def UL(t:∀args w,(callFunc f args).run Tryz.prog w=.ok (.enter f args) w)(lb:Array Value)(i:aft)(m l:Nat)(A:aft)(n d:Nat)(h:Int)(P:Bool)(g c:Nat)(w:World)(o:w.cell? (rN g 0)=some (.slice i m l))(p:w.cell? (rN g 1)=some (.int .i64 0))(q:w.cell? (rN g 2)=some (.slice A n d))(r:w.cell? (rN g 3)=some (.int .u64 h))(j:Calls Tryz.prog f (#[.agg #[.slice i m l,.int .i64 0,.slice A n d,.int .u64 h]]++lb) w (vh w (.bool P))):Calls Tryz.prog 94 #[.slice (some ⟨g,0,none⟩) 1 c,.func (.func f) #[] lb] w (vh w (.int .i64 (if P=true then 0 else-1))):=by
 obtain⟨a,e⟩:∃a:Int,a=if P=true then 0 else-1:=⟨_,rfl⟩;rw[<-e];have HV:=rz e;clear e;go_enter Tryz.func94,Tryz.ntmps94;go_wp2_with fail;go_loopw [8] (fun b wr=>(b=.int .i64 0/\w=wr)\/(b=.int .i64 1/\P=false/\Below w.heap.size w wr)) (fun b _=>1-(intOf b).toNat);case atStart=>exact .inl ⟨rfl,rfl⟩
 case
  round=>
   rcases hrel with⟨rfl,rfl⟩|⟨rfl,k,hb⟩
   ·go_wp2_with fail;refine sG j fun v vb=> ?_
    clear j o p q r;cases P with
    |true=>obtain rfl:a=0:=cT;clear HV;exact jV
    |false=>go_wp2_with fail;refine⟨.inr ⟨bA,kK,vb⟩,?_⟩;simp[intOf]
   ·obtain rfl:a= -1:=by rw[HV.out,k];rfl
    clear HV k;exact dS
def MQ(A:aft)(c:Nat)(a:aft)(m d:Nat)(w:World)(g:Bx w i [.slice A 0 c,j,M]):Calls Tryz.prog 49 #[sg i,.slice a m d] w (vh w (.int .i64 0)):=by have e:=(afw w).al rV (.cells #[.slice a m d] 22);have k:=g.below e g.CG;go_enter Tryz.func49,Tryz.ntmps49;go_upto_region 1 with fail;generalize w.alloc _=w1 at*;have s1:=k.c 0 _ rfl;have b:=RP 95 #[sg w.heap.size] A c w1;go_wp2_with fail;refine tZ b ?_;clear b;go_wp2_with fail;go_ret;exact⟨bA,e⟩
def Qs(v M:Value)(g c:Nat)(e:aft)(o l:Nat)(A:aft)(n i:Nat)(h:Int)(a:aft)(m d B:Nat)(own xs:afs)(D:own≠xs)(w:World)(q:Bx w r [.slice (some ⟨g,0,none⟩) 1 c,v,M])(x:w.cell? (rN g 0)=some (.slice e o l))(y:w.cell? (rN g 1)=some (.int .i64 0))(z:w.cell? (rN g 2)=some (.slice A n i))(C:w.cell? (rN g 3)=some (.int .u64 h))(b:g<w.heap.size)(E:Rd w B A n own)(F:Rd w B a m xs)(p:B<=w.heap.size):Calls Tryz.prog 49 #[sg r,.slice a m d] w (vh w (.int .i64 0)):=by
 have sK:=(afw w).al rV (.cells #[.slice a m d] 22);have I:=q.below sK q.CG;have t:=(Bx.new w #[.slice a m d] 22 w.heap.size rfl).c 0 _ rfl;have G:=sK.s1;have K:=sK.cl x b;have L:=sK.cl y b;have N:=sK.cl z b;have O:=sK.cl C b;go_enter Tryz.func49,Tryz.ntmps49;go_upto_region 1 with fail;generalize w.alloc _=w1 at*;have H:w.heap.size<w1.heap.size:=V;clear G;have s1:=I.c 0 _ rfl;have k:=OC A a n i m d own xs e o l h w.heap.size B w1 (E.sV sK p) V t H (F.sV sK p);rw[show(own==xs)=false by simpa using D]at k;have j:=UL 95 (enters_of Tryz.func95 bm rfl) #[sg w.heap.size] e o l A n i h false g c w1 K L N O k;rw[rB bA]at j;clear k;go_wp2_with fail;refine sG j fun Q Gu=> ?_
 clear j;exact oO
def Ke(r:afs)(m:Int)(o:Nat)(d:aft)(k j:Nat)(e:aft)(n l:Nat)(h:Int)(w:World)(p:Bj w i g c K M r m none 0 o):Calls Tryz.prog 93 #[sg i,sg g,.agg #[.slice d k j,.int .i64 0,.slice e n l,.int .u64 h]] w (vh w (.bool true)):=by
 have sK:=(afw w).al rV (.cells #[.slice d k j,.int .i64 0,.slice e n l,.int .u64 h] 103);have b:=p.below sK;go_enter Tryz.func93,Tryz.ntmps93;go_upto_region 1 with fail;generalize w.alloc _=w1 at*;have c1:=b.c1;have c2:=b.c2;by_cases a:m=0;·have q:(m==0)=true:=tl.2 a;clear a;exact bL
 ·have q:(m==0)=false:=rA.2 a;clear a;go_wp2_with fail;go_loopw [7] (fun t wr=>t=.int .i64 (-1)/\w1=wr) (fun _ _=>0);case atStart=>exact⟨bA,rfl⟩
  case round=>obtain⟨rfl,rfl⟩:=hrel;go_wp2_with fail;go_ret;exact⟨rfl,sK⟩
def WD(m:Int)(S a:List Nd):Bool:=if m=0 then true else agP m S a
def LS(i:List Nd)(aU:SS S)(ar:SS i)(x g c:Nat)(M:Value)(be:afs)(m:Int)(b2:0<=m/\m<=6)(a bd z a9:Nat)(v:aft)(n O:Nat)(R:aft)(a3 a2:Nat)(h:Int)(A:aft)(r W:Nat)(w:World)(az:uI w)(F:Bj w x g c (.slice (some ⟨a,0,none⟩) 1 bd) M be m (some ⟨z,0,none⟩) 1 a9)(bj:w.cell? (rN z 0)=some (.int .i64 1))(bk:w.cell? (rN z 1)=some (.int .i64 0))(a0:z<w.heap.size)(b8:w.cell? (rN a 0)=some (.slice A r W))(b9:w.cell? (rN a 1)=some (.int .i64 0))(Z:a<w.heap.size)(X:afu)(H:∀b,X b->b<w.heap.size)(b4:tJ w X v n S)(b3:tJ w X A r i)(b7:n<=1000)(b1:r<=1000)(an:0<n)(af:0<r):Calls Tryz.prog 93 #[sg x,sg g,.agg #[.slice v n O,.int .i64 0,.slice R a3 a2,.int .u64 h]] w (vh w (.bool (WD m S i))):=by
 have sK:=(afw w).al rV (.cells #[.slice v n O,.int .i64 0,.slice R a3 a2,.int .u64 h] 103);have a6:=sK.yg;have C:=F.below sK;obtain⟨o,G⟩:=sW (WD m S i);rw[<-G];have t:=rz G;clear G;go_enter Tryz.func93,Tryz.ntmps93;go_upto_region 1 with fail;have b5:=sK.s1;generalize w.alloc _=w1 at*;have c4:w.heap.size<w1.heap.size:=V;clear b5;have c1:=C.c1;have c2:=C.c2;by_cases l:m=0
 ·have q:(m==0)=true:=tl.2 l;obtain rfl:o=true:=by rw[t.out];unfold WD;rw[rG l]
  clear l t;exact bL
 ·have q:(m==0)=false:=rA.2 l;have a5:=rz (show o=agP m S i from by rw[t.out];unfold WD;rw[rB l]);clear l t;go_wp2_with fail;go_loopw [7] (fun y wr=>(y=.int .i64 0/\w1=wr)\/(y=.int .i64 (-1)/\o=true/\Below w.heap.size w wr)) (fun y _=>(intOf y+1).toNat);case atStart=>exact .inl ⟨bA,rfl⟩
  case
   round=>
    rcases hrel with⟨rfl,rfl⟩|⟨rfl,b0,hb⟩
    ·have bn:=sK.cl bj a0;have bp:=sK.cl bk a0;have p:=(afw w1).al rV (.cells #[.int .i64 1,.int .i64 0] 108);have T:=p.yg;have b6:=p.s1;go_upto_region 7 with fail;generalize w1.alloc _=a4 at*;have c5:w1.heap.size<a4.heap.size:=V;clear b6 bn bp;have a8:=T.c 1 _ rfl;go_upto_region 8 with fail;clear a8;refine sR (K:=Kb (fun b=>b<a4.heap.size)) (Kb.keeps _) (sA.of [0,1,2,3,4,5,6,7,8,9,10,11,12,13,14,15,16,17] .nil) [16] bm bm bF bm bt (fun wd j tj=> ?_);have e:Below w.heap.size w wd:=sK.trans ((p.mono V).trans (j.mono V));have D:=(C.below p).below j;have c6:=j.size;have E:=D.c1;have U:=D.bx.c 0 _ rfl;have B:=(a6.below p V).below j V;have aa:=B.c 0 _ rfl;have ab:=B.c 1 _ rfl;have ad:=(T.below j V).c 0 _ rfl;have a1:=e.cl b8 Z;have l1:=e.cl b9 Z;have c3:=F.bx.CG;have bO:=F.lt;have I:=NP m b2 S i aU ar wd (az.below e) X (fun b hb=>rS (H b hb) e.size) v n O A r W (b4.below e H) (b3.below e H) b7 b1 an af;rw[<-a5.out]at I;clear j tj B;repeat((first|(refine tp rfl rfl rfl bo ?_)|(refine tF rfl rfl rfl ?_)|(refine tA rfl rfl rfl 0 rV _ (by intro w' hb;have br:=(Kb.cell hb (q:=rN g 1) bl).trans E;have bs:=(Kb.cell hb (q:=rN x 0) bl).trans U;have bv:=(Kb.cell hb (q:=rN w.heap.size 0) bl).trans aa;have bw:=(Kb.cell hb (q:=rN w.heap.size 1) bl).trans ab;have c8:=(Kb.cell hb (q:=rN w1.heap.size 0) bl).trans ad;have c9:=(Kb.cell hb (q:=rN a 0) bl).trans a1;have cb:=(Kb.cell hb (q:=rN a 1) bl).trans l1;clear hb;go_simp;first|done|with_reducible rfl) ?_));simp only[Act.put,rH,rC,rF])
     rw[show IntKind.i64.wrap 0=0 from bH];repeat((first|(refine tp rfl rfl rfl bo ?_)|(refine tF rfl rfl rfl ?_)|(refine tA rfl rfl rfl 0 rV _ (by intro w' hb;have br:=(Kb.cell hb (q:=rN g 1) bl).trans E;have bs:=(Kb.cell hb (q:=rN x 0) bl).trans U;have bv:=(Kb.cell hb (q:=rN a 0) bl).trans a1;have bw:=(Kb.cell hb (q:=rN a 1) bl).trans l1;clear hb;go_simp;first|done|with_reducible rfl) ?_));simp only[Act.put,rH,rC,rF])
     refine se rfl rfl 0 rV (fun bx Y=> ?_);go_wp2_with fail;refine sG I fun c7 L=> ?_
     clear I;go_wp2_with fail;refine Y _ _ (fun b hb=>L.block b V) ?_;clear Y;have N:=e.sY rV L;have a7:=D.below L;have E:=a7.c1;refine aO ?_;refine sF ?_;cases o with
     |false=>go_wp2_with fail;go_ret;exact⟨rfl,N⟩
     |true=>
      by_cases bz:m<4;·go_wp2_with fail;go_ret;exact⟨rfl,N⟩
      ·go_wp2_with fail;refine⟨.inr ⟨bA,kK,N⟩,?_⟩;simp[intOf]
    ·obtain rfl:o=true:=b0;exact dS
def To(w:World)(S:List Nd)(own:afs)(e:Ending)(w':World):Prop:=∃(A:aft)(n c g d:Nat)(h:Int),e=.returned (.tuple #[.agg #[.slice A n c,.int .i64 0,.slice (some ⟨g,0,none⟩) own.length d,.int .u64 h],.int .i64 0,.int .i64 0])/\tJ w' (fun b=>b<w'.heap.size) A n S/\n<=1000/\own.length<=d/\Rd w' w'.heap.size (some ⟨g,0,none⟩) own.length own/\sZ w w'
def PC(w:World)(S:List Nd)(own:afs)(al:Bool)(e:Ending)(w':World):Prop:=(al=true/\To w S own e w')\/(al=false/\e=.returned (.tuple #[.agg #[.slice none 0 0,.int .i64 0,.slice none 0 0,.int .u64 0],.int .i64 0,.int .i64 61])/\sZ w w')
def KV{k:Func}{p q i:Tmp}{te j:Value}(h:k.results= #[.cell p 103,.tmp q,.tmp i]){e:Array Value}{w:World}{r:Nat}{A B:aft}{n c m d:Nat}{a b:Int}(hp:e.getD p undef=sg r)(hq:e.getD q undef=te)(l:e.getD i undef=j)(g:Bx w r [.slice A n c,.int .i64 a,.slice B m d,.int .u64 b]):(results k e).run Tryz.prog w=.ok (.tuple #[.agg #[.slice A n c,.int .i64 a,.slice B m d,.int .u64 b],te,j]) w:=by
 have y:=g.c 0 _ rfl;have z:=g.c 1 _ rfl;have C:=g.c 2 _ rfl;have D:=g.c 3 _ rfl;have o:(loadVar 103 ⟨r,0,none⟩).run Tryz.prog w=.ok (.agg #[.slice A n c,.int .i64 a,.slice B m d,.int .u64 b]) w:=by clear hp hq l h g;go_simp
 have t:e[p]?.getD undef=sg r:=gg;have v:e[q]?.getD undef=te:=fY;have x:e[i]?.getD undef=j:=by simpa using l
 simp only[results,h];simp[uJ,Result.andThen,t,v,x,asAddr,o]
def RU(own:afs)(an:Tt S own)(y g c H O:Nat)(M:Value)(j:afs)(bs:j.length<=1000)(ar:vL j=true)(m:Int)(A:aft)(n c' B:Nat)(X:afu)(w:World)(a0:uI w)(b0:Rd w B A n own)(ad:B<=w.heap.size)(az:n<=100000000)(aU:n<=c')(af:Bj w y g c (.slice none 0 H) M j m none 0 O):Calls Tryz.prog 48 #[sg y,.string ⟨j.toArray⟩,.slice A n c'] w (To w S own):=by
 have v:=(afw w).al rV (.cells #[.slice none 0 0,.int .i64 0,.slice none 0 0,.int .u64 0] 103);have a:=v.yg;have b4:=v.s1;have U:=af.below v;go_enter Tryz.func48,Tryz.ntmps48;go_upto_region 1 with fail;generalize w.alloc _=w1 at*;have bw:w.heap.size<w1.heap.size:=V;clear b4;have Q:=Bw j V w1 (a0.below v);rw[ar]at Q;go_wp2_with fail;refine sG Q fun bp G=> ?_
 clear Q;have R:=v.sY rV G;have bx:=G.size;have a4:=Ql S own an A n c' B bp (a0.below R) (b0.sV R ad) V az aU;have a:=a.below G V;have F:=U.below G;go_wp2_with fail;refine a4.mono ?_;rintro e' k ⟨t,C,z,q,p,h,rfl,b1,b6,b7,a5,o⟩;clear a4 U;have be:=(sZ.below R).trans o;have bz:=o.1;have a:=a.zd o;have W:=F.keep o.1 (o.2 _ F.bx.CG) (o.2 _ F.lt);have e:=(afw k).al rV (.cells #[.slice t C z,.int .i64 0,.slice (some ⟨q,0,none⟩) own.length p,.int .u64 h] 103);have T:=e.yg;have b5:=e.s1;go_upto_region 4 with fail;generalize k.alloc _=aa at*;have bO:k.heap.size<aa.heap.size:=V;clear b5 F;have d:=W.below e;have a:=a.below e V;have a2:=Dr y (.slice none 0 H) M g c j m none 0 O aa d.bx d.c0 d.c1 d.c2 d.lt;go_wp2_with fail;refine sG a2 fun br i=> ?_
 clear a2 W;have c3:=i.size;have N:=d.below i;have K:=T.below i V;have a:=a.below i V;have bj:=(be.trans (sZ.below e)).trans (sZ.below i);have bv:=(a5.sV e rV).sV i V;have b8:=K.c 2 _ rfl;clear d T;have a3:=MQ y _ M none H (some ⟨q,0,none⟩) own.length p br N.bx;go_wp2_with fail;refine sG a3 fun ab l=> ?_
 clear a3 b8;have c4:=l.size;have Y:=N.below l;have r:=K.below l V;have a:=a.below l V;have bk:=bj.trans (sZ.below l);have vv:=Y.c2;clear N K;go_wp2_with fail;go_loopw [43] (fun b9 wr=>b9=.int .i64 0/\ab=wr) (fun _ _=>0);case atStart=>exact⟨rfl,rfl⟩
 case
  round=>
   obtain⟨rfl,rfl⟩:=hrel;clear vv;obtain⟨a6,a7,a8,a9⟩:_/\_/\_/\_:=⟨r.c 0 _ rfl,r.c 1 _ rfl,r.c 2 _ rfl,r.c 3 _ rfl⟩;have a1:=Ke y g c (.slice none 0 H) M j m O t C z (some ⟨q,0,none⟩) own.length p h ab Y;go_wp2_with fail;refine sG a1 fun I x=> ?_
   clear a1 a6 a7 a8 a9;have c5:=x.size;have D:=r.below x V;have a:=a.below x V;have bn:=bk.trans (sZ.below x);obtain⟨a6,a7,a8,a9⟩:_/\_/\_/\_:=⟨D.c 0 _ rfl,D.c 1 _ rfl,D.c 2 _ rfl,D.c 3 _ rfl⟩;obtain⟨c7,c8,c9,cb⟩:_/\_/\_/\_:=⟨a.c 0 _ rfl,a.c 1 _ rfl,a.c 2 _ rfl,a.c 3 _ rfl⟩;have cc:=a.f;have Z:Below k.heap.size k I:=e.trans ((i.mono V).trans ((l.mono V).trans (x.mono V)));have b2:=b1.below Z (fun b hb=>hb);have b3:=a5.sV Z rV;go_wp2_with fail;have L:=(((a.set 0 (.slice t C z)).set 1 (.int .i64 0)).set 2 (.slice (some ⟨q,0,none⟩) own.length p)).set 3 (.int .u64 h);simp only[rC,rF]at L;have E:sa w.heap.size I.heap.size I ((((I.setCell ⟨w.heap.size,0,none⟩ (.slice t C z)).setCell ⟨w.heap.size,1,none⟩ (.int .i64 0)).setCell ⟨w.heap.size,2,none⟩ (.slice (some ⟨q,0,none⟩) own.length p)).setCell ⟨w.heap.size,3,none⟩ (.int .u64 h)):=bu;refine sc (KV rfl rfl rfl rfl L) rfl ?_;have bd:=Lb (h:=a) L (fun b=>b<k.heap.size) E bP;have c6:=E.size;exact⟨t,C,z,q,p,h,rfl,(b2.M1 bd).keep (fun _ _=>rfl) bP,b6,b7,(OY b3 a E V).more V,wy bn E rV⟩
def RV(own:afs)(cp:Tt S own)(T g c a7 an:Nat)(M:Value)(C:afs)(e1:C.length<=1000)(cv:vL C=true)(m:Int)(A:aft)(n c' B:Nat)(X:afu)(w:World)(b0:uI w)(cE:Rd w B A n own)(be:B<=w.heap.size)(cy:n<=100000000)(cz:n<=c')(O:List Nd)(b4:afs)(cj:SS O)(cr:SS S)(cA:b4≠own)(d i:Nat)(a2:aft)(H ar:Nat)(af:aft)(b5 c7:Nat)(b9:Int)(c8:w.cell? (rN i 0)=some (.int .i64 1))(c9:w.cell? (rN i 1)=some (.int .i64 0))(I:i<w.heap.size)(bx:w.cell? (rN d 0)=some (.slice a2 H ar))(bO:w.cell? (rN d 1)=some (.int .i64 0))(d8:w.cell? (rN d 2)=some (.slice af b5 c7))(d9:w.cell? (rN d 3)=some (.int .u64 b9))(r:d<w.heap.size)(cR:tJ w X a2 H O)(bj:∀b,X b->b<w.heap.size)(ct:H<=1000)(ci:0<H)(cs:Rd w B af b5 b4)(cx:0<=m/\m<=6)(e0:0<S.length)(ck:Bj w T g c (.slice (some ⟨d,0,none⟩) 1 a7) M C m (some ⟨i,0,none⟩) 1 an):Calls Tryz.prog 48 #[sg T,.string ⟨C.toArray⟩,.slice A n c'] w (PC w S own (WD m S O)):=by
 have R:=(afw w).al rV (.cells #[.slice none 0 0,.int .i64 0,.slice none 0 0,.int .u64 0] 103);have a:=R.yg;have d2:=R.s1;have b7:=ck.below R;obtain⟨cf,az⟩:=sW (WD m S O);rw[<-az];have ch:=rz az;clear az;go_enter Tryz.func48,Tryz.ntmps48;go_upto_region 1 with fail;generalize w.alloc _=w1 at*;have e3:w.heap.size<w1.heap.size:=V;clear d2;have aU:=Bw C V w1 (b0.below R);rw[cv]at aU;go_wp2_with fail;refine sG aU fun dr a6=> ?_
 clear aU;have b3:=R.sY rV a6;have e4:=a6.size;have bp:=Ql S own cp A n c' B dr (b0.below b3) (cE.sV b3 be) V cy cz;have a:=a.below a6 V;have a4:=b7.below a6;go_wp2_with fail;refine bp.mono ?_;rintro e' E ⟨Q,W,U,N,L,h,rfl,b2,bw,d4,bs,K⟩;clear bp b7;have dp:=(sZ.below b3).trans K;have e5:=K.1;have a:=a.zd K;have b8:=a4.keep K.1 (K.2 _ a4.bx.CG) (K.2 _ a4.lt);have k:=(afw E).al rV (.cells #[.slice Q W U,.int .i64 0,.slice (some ⟨N,0,none⟩) own.length L,.int .u64 h] 103);have b6:=k.yg;have d3:=k.s1;go_upto_region 4 with fail;generalize E.alloc _=cb at*;have d6:E.heap.size<cb.heap.size:=V;clear d3 a4;have x:=b8.below k;have a:=a.below k V;have bk:=Dr T (.slice (some ⟨d,0,none⟩) 1 a7) M g c C m (some ⟨i,0,none⟩) 1 an cb x.bx x.c0 x.c1 x.c2 x.lt;go_wp2_with fail;refine sG bk fun cc l=> ?_
 clear bk b8;have d7:=l.size;have ad:=x.below l;have ab:=b6.below l V;have a:=a.below l V;have D:=(dp.trans (sZ.below k)).trans (sZ.below l);have d0:=(bs.sV k rV).sV l V;have di:=ab.c 2 _ rfl;clear x b6;have a8:=(D.cell (show(⟨d,0,none⟩:Addr).block<w.heap.size from r)).trans bx;have a9:=(D.cell (show(⟨d,1,none⟩:Addr).block<w.heap.size from r)).trans bO;have dd:=(D.cell (show(⟨d,2,none⟩:Addr).block<w.heap.size from r)).trans d8;have df:=(D.cell (show(⟨d,3,none⟩:Addr).block<w.heap.size from r)).trans d9;have bn:=Qs T _ M d a7 a2 H ar af b5 c7 b9 (some ⟨N,0,none⟩) own.length L cc.heap.size b4 own cA cc ad.bx a8 a9 dd df (rS r D.1) (Rd.zd cs D be) (d0.more V) rV;go_wp2_with fail;refine sG bn fun j y=> ?_
 clear bn di;have e6:=y.size;have a5:=ad.below y;have v:=ab.below y V;have a:=a.below y V;have e:=D.trans (sZ.below y);have vv:=a5.c2;clear ad ab;have Z:=(e.cell (show(⟨i,0,none⟩:Addr).block<w.heap.size from I)).trans c8;have a0:=(e.cell (show(⟨i,1,none⟩:Addr).block<w.heap.size from I)).trans c9;have e2:=rS I e.1;go_wp2_with fail;go_loopw [43] (fun aa wr=>(aa=.int .i64 0/\j=wr)\/(aa=.int .i64 1/\Below j.heap.size j wr)) (fun aa _=>1-(intOf aa).toNat);case atStart=>exact .inl ⟨rfl,rfl⟩
 case
  round=>
   rcases hrel with⟨rfl,rfl⟩|⟨rfl,o⟩;·have z:=(afw j).al rV (.cells #[.int .i64 1,.int .i64 0] 108);go_upto_region 13 with fail;have dx:(j.alloc (.cells #[.int .i64 1,.int .i64 0] 108)).cell? (rN j.heap.size 0)=some (.int .i64 1):=bi;have dz:(j.alloc (.cells #[.int .i64 1,.int .i64 0] 108)).cell? (rN j.heap.size 1)=some (.int .i64 0):=bi;generalize j.alloc _=t at*;clear vv Z a0;go_wp2_with fail;refine⟨.inr ⟨bA,z⟩,?_⟩;simp[intOf]
   ·clear vv Z a0;have e9:=o.size;have a5:=a5.below o;have v:=v.below o V;have a:=a.below o V;have e:=e.trans (sZ.below o);obtain⟨a1,d5⟩:=sW wr;subst d5;obtain⟨bz,c3,c4,c5⟩:_/\_/\_/\_:=⟨v.c 0 _ rfl,v.c 1 _ rfl,v.c 2 _ rfl,v.c 3 _ rfl⟩;have Z:=(e.cell (show(⟨i,0,none⟩:Addr).block<w.heap.size from I)).trans c8;have a0:=(e.cell (show(⟨i,1,none⟩:Addr).block<w.heap.size from I)).trans c9;have a8:=(e.cell (show(⟨d,0,none⟩:Addr).block<w.heap.size from r)).trans bx;have a9:=(e.cell (show(⟨d,1,none⟩:Addr).block<w.heap.size from r)).trans bO;have cW:=((b2.keep (w':=a1) (Y:=fun b=>b<a1.heap.size) (fun q br=>by exact((l.trans (y.mono d7)|>.trans (o.mono V)).cell (p:=q) (Nat.lt_trans br d6)).trans (k.cell (p:=q) br)) bP));have cS:=(tJ.zd cR e bj).keep (Y:=fun b=>b<a1.heap.size) (fun _ _=>rfl) (fun b hb=>rS (bj b hb) e.1);have bv:=b2.len;have b1:=LS S O cr cj T g c M C m cx d a7 i an Q W U (some ⟨N,0,none⟩) own.length L h a2 H ar a1 (vy b0 e) a5 Z a0 (rS I e.1) a8 a9 (rS r e.1) (fun b=>b<a1.heap.size) ug cW cS bw ct V ci;rw[<-ch.out]at b1;clear Z a0 a8 a9;have ds:=rz bv;clear bv;go_wp2_with fail;refine sG b1 fun t z=> ?_
    clear b1 bz c3 c4 c5;have e7:=z.size;have ea:=o.size;have a3:=v.below z V;have a:=a.below z V;have c6:=e.trans (sZ.below z);obtain⟨bz,c3,c4,c5⟩:_/\_/\_/\_:=⟨a3.c 0 _ rfl,a3.c 1 _ rfl,a3.c 2 _ rfl,a3.c 3 _ rfl⟩;obtain⟨eb,ec,ed,ef⟩:_/\_/\_/\_:=⟨a.c 0 _ rfl,a.c 1 _ rfl,a.c 2 _ rfl,a.c 3 _ rfl⟩;have eg:=a.f;have bd:Below E.heap.size E t:=k.trans ((l.mono V).trans ((y.mono V).trans ((o.mono V).trans (z.mono V))));have cZ:=b2.below bd (fun b hb=>hb);have d1:=bs.sV bd rV;cases cf with
    |true=>go_wp2_with fail;have F:=(((a.set 0 (.slice Q W U)).set 1 (.int .i64 0)).set 2 (.slice (some ⟨N,0,none⟩) own.length L)).set 3 (.int .u64 h);simp only[rC,rF]at F;have G:sa w.heap.size t.heap.size t ((((t.setCell ⟨w.heap.size,0,none⟩ (.slice Q W U)).setCell ⟨w.heap.size,1,none⟩ (.int .i64 0)).setCell ⟨w.heap.size,2,none⟩ (.slice (some ⟨N,0,none⟩) own.length L)).setCell ⟨w.heap.size,3,none⟩ (.int .u64 h)):=bu;refine sc (KV rfl rfl rfl rfl F) rfl ?_;have dj:=Lb (h:=a) F (fun b=>b<E.heap.size) G bP;have e8:=G.size;exact .inl ⟨rfl,Q,W,U,N,L,h,rfl,(cZ.M1 dj).keep (fun _ _=>rfl) bP,bw,d4,(OY d1 a G V).more V,wy c6 G rV⟩
    |false=>go_wp2_with fail;have F:=(((a.set 0 (.slice none 0 0)).set 1 (.int .i64 0)).set 2 (.slice none 0 0)).set 3 (.int .u64 0);simp only[rC,rF]at F;have G:sa w.heap.size t.heap.size t ((((t.setCell ⟨w.heap.size,0,none⟩ (.slice none 0 0)).setCell ⟨w.heap.size,1,none⟩ (.int .i64 0)).setCell ⟨w.heap.size,2,none⟩ (.slice none 0 0)).setCell ⟨w.heap.size,3,none⟩ (.int .u64 0)):=bu;refine sc (KV rfl rfl rfl rfl F) rfl ?_;exact .inr ⟨rfl,rfl,wy c6 G rV⟩
def IL(al:Bool):Int:=if al=true then 0 else 61
def OX(m own:afs)(S:List Nd)(al:Bool)(A:aft)(n c:Nat)(w:World)(q:Calls Tryz.prog 48 #[sg o,.string ⟨m.toArray⟩,.slice A n c] w (PC w S own al)):Calls Tryz.prog 22 #[sg o,.string ⟨m.toArray⟩,.slice A n c] w fun e w'=>e=.returned (.int .i64 (IL al))/\sZ w w':=by
 obtain⟨l,b⟩:=sW (IL al);rw[<-b];have k:=rz b;clear b;go_enter Tryz.func22,Tryz.ntmps22;go_wp2_with fail;refine q.mono ?_;rintro e' a (⟨i,p,t,r,g,d,h,rfl,v,y,z,x,s2⟩|⟨i,rfl,s2⟩)
 ·obtain rfl:l=0:=by rw[k.out,i];rfl
  have j:=sZ.below ((afw a).al rV (.cells #[.slice p t r,.int .i64 0,.slice (some ⟨g,0,none⟩) own.length d,.int .u64 h] 103));go_wp2_with fail;go_ret;exact⟨rfl,s2.trans j⟩
 ·obtain rfl:l=61:=by rw[k.out,i];rfl
  have j:=sZ.below ((afw a).al rV (.cells #[.slice none 0 0,.int .i64 0,.slice none 0 0,.int .u64 0] 103));go_wp2_with fail;go_ret;exact⟨rfl,s2.trans j⟩
def StX(w w':World)(a g:Nat):Prop:=w.heap.size<=w'.heap.size/\(∀b,b<w.heap.size->b≠a->b≠g->w'.heap[b]? =w.heap[b]?)/\w'.os=w.os/\w'.output=w.output
def Bj.acf{w:World}{b g c:Nat}{K M:Value}{i:afs}{m:Int}{d:aft}{k e:Nat}(h:Bj w b g c K M i m d k e)(a:Value):Bj (w.setCell ⟨b,0,none⟩ a) b g c a M i m d k e:=by have O:=(sa.refl b w.heap.size w).setAt 0 a;have B:=h.bx.set 0 a;simp only[rC]at B;exact⟨B,(O.cell (p:=rN g 0) h.lt h.ne).trans h.c0,(O.cell (p:=rN g 1) h.lt h.ne).trans h.c1,(O.cell (p:=rN g 2) h.lt h.ne).trans h.c2,fun j l=>(O.frozen (p:=rN g j) h.lt h.ne).trans (h.fz j l),rS h.lt O.size,h.ne⟩
end
structure Sp2(w w':World)(X:afu)(g:Nat):Prop where
 c0:∃a,w.cell? (rN g 0)=some (.string a)
 c1:∃a,w.cell? (rN g 1)=some (.int .i64 a)
 c2:∃A n c,w.cell? (rN g 2)=some (.slice A n c)
 ot:∀q:Addr,X q.block->q≠⟨g,2,none⟩->w'.cell? q=w.cell? q
section
variable(l:List Int)(S:List Nd){w w':World}{B n:Nat}
def YN(cs:List Value):Prop:=((∃k a,cs[0]? =some (.int k a))/\(cs.length=1\/(∃t,cs[1]? =some (.string t))\/∃k a,cs[1]? =some (.int k a)))\/((∃t,cs[0]? =some (.string t))/\(cs.length=1\/∃A n c,cs[1]? =some (.slice A n c)))
def Row.Qu{X:afu}{g k n:Nat}{A:aft}{o:List (List Value)}(h:Row w X k A n o)(s:Sp2 w w' X g)(y:∀cs∈o,YN cs):Row w' X k A n o:=by
 refine⟨h.len,fun K=> ?_⟩;obtain⟨b,p,H,D,a⟩:=h.pos K;refine⟨b,p,H,D,fun i cs e=>⟨(a i cs e).1,fun j u l=> ?_⟩⟩;have z:=(a i cs e).2 j u l;by_cases C:(⟨b,p+(i*k+j),none⟩:Addr)=⟨g,2,none⟩
 ·exfalso;injection C with e1 G _;subst e1;obtain⟨N,L⟩:=s.c0;obtain⟨O,F⟩:=s.c1;obtain⟨M,T,c2,z2⟩:=s.c2;have y:=y cs (rU e);obtain⟨q,E⟩:=sW (p+i*k);have hcc:∀(j:Nat)(u:Value),cs[j]? =some u->w.cell? (rN b (q+j))=some u:=fun j u l=>by have:=(a i cs e).2 j u l;rw[E];simpa[Cs]using this
  have G:q+j=2:=V;clear E a z;have Q:j<cs.length:=(rQ.1 l).1;rcases y with⟨⟨R,W,r⟩,v⟩|⟨⟨U,r⟩,v⟩
  ·have g0:=hcc 0 _ r;rw[sE]at g0;have x:q=1:=by
    rcases q with _|_|_|q;·rw[L]at g0;exact ko
    ·rfl
    ·rw[z2]at g0;exact ko
    ·omega
   subst x;rcases v with I|⟨t,f1⟩|⟨S,Y,f1⟩;·omega
   ·exact lx
   ·exact lx
  ·have g0:=hcc 0 _ r;rw[sE]at g0;have x:q=0:=by
    rcases q with _|_|_|q;·rfl
    ·rw[F]at g0;exact ko
    ·rw[z2]at g0;exact ko
    ·omega
   subst x;rcases v with I|⟨B,m,d,f1⟩;·omega
   ·have g1:=hcc 1 _ f1;rw[F]at g1;injection g1 with g1;cases g1
 ·rw[s.ot _ D C];exact z
def Lg(l:List afs):∀cs∈uL l,YN cs:=fun cs h=>by obtain⟨t,_,rfl⟩:=ti.1 h;exact .inr ⟨⟨_,rfl⟩,.inl rfl⟩
def aac:∀cs∈xZ l,YN cs:=fun cs h=>by obtain⟨t,_,rfl⟩:=ti.1 h;exact .inl ⟨⟨_,_,rfl⟩,.inl rfl⟩
def KY{d:Type}{P:List Value->d->Prop}{b:List (List Value)}{l:List d}(m:b.length=l.length)(g:∀(i:Nat)(h:i<b.length)(k:i<l.length),P b[i] l[i])(j:∀cs a,P cs a->YN cs):∀cs∈b,YN cs:=fun cs e=>by obtain⟨i,h,rfl⟩:=vx e;exact j _ _ (g i h V)
def Z6{X:afu}{cs:List Value}{j:J}(h:uq w X cs j):YN cs:=by
 cases h with
 |mk=>exact .inl ⟨⟨_,_,rfl⟩,.inr (.inr ⟨_,_,rfl⟩)⟩
def Z4{X:afu}{cs:List Value}{f:Fd}(h:DB w X cs f):YN cs:=by
 cases h with
 |mk=>exact .inr ⟨⟨_,rfl⟩,.inr ⟨_,_,_,rfl⟩⟩
def Z7{X:afu}{cs:List Value}{x:Nd}(h:Lw w X cs x):YN cs:=by
 cases h with
 |mk=>exact .inl ⟨⟨_,_,rfl⟩,.inr (.inl ⟨_,rfl⟩)⟩
def uq.Qu{X:afu}{g:Nat}{cs:List Value}{j:J}(h:uq w X cs j)(s:Sp2 w w' X g):uq w' X cs j:=by
 induction h with
 |mk o a k l m n d e p=>exact .mk (o.Qu s (KY (P:=fun cs j=>uq w X cs j) a k fun _ _ h=>Z6 h)) a (fun i h b=>p i h b) (l.Qu s (Lg _)) m n d e
def xu.Qu{X:afu}{g n:Nat}{A:aft}{l:List Fd}(h:xu w X A n l)(s:Sp2 w w' X g):xu w' X A n l:=by
 obtain⟨a,e,b,d⟩:=h;refine⟨a,e.Qu s (KY (P:=fun cs f=>DB w X cs f) b d fun _ _ h=>Z4 h),b,fun i m o=> ?_⟩;have h:=d i m o;generalize a[i]=cs at h|-;generalize l[i]=f at h|-;cases h with
 |mk j k q p=>exact .mk (j.Qu s (Lg _)) k q (p.Qu s)
def tJ.Qu{X:afu}{g n:Nat}{A:aft}{l:List Nd}(h:tJ w X A n l)(s:Sp2 w w' X g):tJ w' X A n l:=by
 obtain⟨e,d,a,b⟩:=h;refine⟨e,d.Qu s (KY (P:=fun cs x=>Lw w X cs x) a b fun _ _ h=>Z7 h),a,fun i q r=> ?_⟩;have h:=b i q r;generalize e[i]=cs at h|-;generalize l[i]=x at h|-;cases h with
 |mk d a b j k m o p t v y z=>exact .mk (d.Qu s (Lg _)) (a.Qu s) (b.Qu s (Lg _)) (j.Qu s (aac _)) k m o p t v y z
def P8:(Tryz.prog.info? 103).map (fun i=>(i.zero,i.size,i.bytes))=some (some (.agg #[.slice none 0 0,.int .i64 0,.slice none 0 0,.int .u64 0]),4,64):=bm
def P9:(Tryz.prog.info? 108).map (fun i=>(i.zero,i.size,i.bytes))=some (some (.agg #[.int .i64 0,.int .i64 0]),2,16):=bm
def Vr{A:aft}{xs:afs}(h:Rd w B A n xs){a:Addr}{b:aft}{p c0:Nat}(d:w.cell? a=some (.slice b p c0))(v:Value):Rd (w.setCell a v) B A n xs:=⟨h.1,fun l=>by obtain⟨g,q,e,k,o⟩:=h.2 l;refine⟨g,q,e,k,fun j u m=> ?_⟩;have h0:=o j u m;rw[tg _ _ _ _ (fun i=>by rw[<-i,d]at h0;exact iK)];exact h0⟩
def NJ(H:Nat)(w:World)(p g c:Nat)(M:Value)(o:afs)(m:Int)(S:List Nd)(own:afs):Prop:=∃(i j n e:Nat)(d:aft)(a q l k:Nat)(h:Int),Bj w p g c (.slice (some ⟨i,0,none⟩) 1 j) M o m (some ⟨n,0,none⟩) 1 e/\uK (WU 4) 103 4 nS nS w H (some ⟨i,0,none⟩) 1 j [[.slice d a q,.int .i64 0,.slice (some ⟨l,0,none⟩) own.length k,.int .u64 h]]/\uK (WU 2) 108 2 nS nS w H (some ⟨n,0,none⟩) 1 e [[.int .i64 1,.int .i64 0]]/\tJ w (fun b=>b<w.heap.size) d a S/\a<=1000/\own.length<=k/\Rd w w.heap.size (some ⟨l,0,none⟩) own.length own
def Sr(own:afs)(rb g c:Nat)(M:Value)(T:afs)(m:Int)(A:aft)(n c':Nat)(w:World)(a3:Bj w rb g c (.slice none 0 0) M T m none 0 0)(bp:Calls Tryz.prog 48 #[sg rb,.string ⟨T.toArray⟩,.slice A n c'] w (To w S own)):Calls Tryz.prog 19 #[sg rb,.string ⟨T.toArray⟩,.slice A n c'] w fun e w'=>e=.returned (.tuple #[.int .i64 1,.int .i64 1,.int .i64 0])/\StX w w' rb g/\NJ w.heap.size w' rb g c M T m S own:=by
 have cf:=a3.bx.CG;have b0:=a3.lt;have c3:=a3.ne;go_enter Tryz.func19,Tryz.ntmps19;go_wp2_with fail;refine bp.mono ?_;rintro e' w2 ⟨p,r,C,o,x,h,rfl,cW,d2,d5,cZ,s2⟩;clear bp;have e2:=s2.1;have be:=a3.keep s2.1 (s2.2 _ cf) (s2.2 _ b0);have a1:=(afw w2).al rV (.cells #[.slice p r C,.int .i64 0,.slice (some ⟨o,0,none⟩) own.length x,.int .u64 h] 103);have af:=a1.yg;have d1:=a1.s1;go_upto_region 4 with fail;generalize w2.alloc _=cp at*;have e3:w2.heap.size<cp.heap.size:=V;clear d1 a3;have an:=be.below a1;have df:=s2.trans (sZ.below a1);have bz:=MQ rb _ M none 0 (some ⟨o,0,none⟩) own.length x cp an.bx;have d6:=af.c 2 _ rfl;go_wp2_with fail;refine sG bz fun dz a5=> ?_
 clear bz d6 be;have e4:=a5.size;have N:=an.below a5;have b7:=af.below a5 V;have di:=df.trans (sZ.below a5);have bs:=Dr rb (.slice none 0 0) M g c T m none 0 0 dz N.bx N.c0 N.c1 N.c2 N.lt;go_wp2_with fail;refine sG bs fun eb a6=> ?_
 clear bs an;have e5:=a6.size;have Z:=N.below a6;have b8:=b7.below a6 V;have dj:=di.trans (sZ.below a6);have az:=Z.c2;have b5:=Z.bx.c 0 _ rfl;have dd:=Z.bx.c 1 _ rfl;clear N b7 af;go_upto_region 15 with fail;clear az b5 dd;refine vO (K:=Kb (fun b=>b=rb\/b=w2.heap.size)) (Kb.keeps _) (sA.of [0,1,2,3,4,5,6,7,8,9] .nil) 10 (sA.of [] .nil) [6,7] [4,5] bm bm bF bm bt (fun wd a tj=> ?_);have ar:=Z.below a;have a9:=b8.below a V;have dp:=dj.trans (sZ.below a);have e6:=a.size;have d3:∀b,b<w2.heap.size->wd.heap[b]? =w2.heap[b]?:=fun b hb=>(a.block b V).trans ((a6.block b V).trans ((a5.block b V).trans (a1.block b hb)))
 clear a tj Z b8;have d0:=ar.bx.c 0 _ rfl;obtain⟨x0,x1,x2,x3⟩:_/\_/\_/\_:=⟨a9.c 0 _ rfl,a9.c 1 _ rfl,a9.c 2 _ rfl,a9.c 3 _ rfl⟩;refine bf ?_;refine uC rfl rfl 0 rV (fun b9 H=> ?_);go_wp2_with fail;have a2:=(afw wd).al rV (.cells #[.slice p r C,.int .i64 0,.slice (some ⟨o,0,none⟩) own.length x,.int .u64 h] 103);refine H _ _ (Kb.below bP a2) ?_;clear H;have a7:uK (WU 4) 103 4 nS nS (wd.alloc (.cells #[.slice p r C,.int .i64 0,.slice (some ⟨o,0,none⟩) own.length x,.int .u64 h] 103)) w.heap.size none 0 0 []:=uK.nil _ _ _ _ _ _ _;have e7:=a2.s1;have bj:=ar.below a2;obtain⟨y0,y1,y2,y3⟩:_/\_/\_/\_:=⟨(Bx.new wd #[.slice p r C,.int .i64 0,.slice (some ⟨o,0,none⟩) own.length x,.int .u64 h] 103 wd.heap.size rfl).c 0 _ rfl,(Bx.new wd #[.slice p r C,.int .i64 0,.slice (some ⟨o,0,none⟩) own.length x,.int .u64 h] 103 wd.heap.size rfl).c 1 _ rfl,(Bx.new wd #[.slice p r C,.int .i64 0,.slice (some ⟨o,0,none⟩) own.length x,.int .u64 h] 103 wd.heap.size rfl).c 2 _ rfl,(Bx.new wd #[.slice p r C,.int .i64 0,.slice (some ⟨o,0,none⟩) own.length x,.int .u64 h] 103 wd.heap.size rfl).c 3 _ rfl⟩;have dr:=dp.trans (sZ.below a2);generalize(wd.alloc _)=ec at*;refine aK ?_;refine uC rfl rfl 0 rV (fun b9 H=> ?_);go_wp2_with(at_builtin;go_must(refine tn (z:=.agg #[.slice none 0 0,.int .i64 0,.slice none 0 0,.int .u64 0]) (bytes:=64) (H1:=w.heap.size) (y:=[.slice p r C,.int .i64 0,.slice (some ⟨o,0,none⟩) own.length x,.int .u64 h]) (cs:=[.slice p r C,.int .i64 0,.slice (some ⟨o,0,none⟩) own.length x,.int .u64 h]) rfl Tryz.underlying91 P8 rfl V V (EC 4) rfl rfl a7 ⟨rfl,rfl,dq⟩ V jy bW bW (fun j u hu=>gX) V V ?_);intro W R F cR br L _);refine H _ _ (Kb.DZ (fun b hb=>⟨V,bA⟩) L) ?_;clear H y0 y1 y2 y3 a7 d0 x0 x1 x2 x3;have e8:=L.1;have a0:=bj.keep L.1 (L.2 _ V bA) (L.2 _ V bA);have b6:sZ w F:=dr.trans ⟨L.1,fun b hb=>L.2 b hb bA,br.os,br.output⟩;have ci:∀b,b<w2.heap.size->F.heap[b]? =w2.heap[b]?:=fun b hb=>(L.2 b V bA).trans ((a2.block b V).trans (d3 b hb))
 have c6:tJ F (fun b=>b<w2.heap.size) p r S:=cW.keep (fun q X=>rK (w:=w2) (ci _ X)) ug;have cb:Rd F w2.heap.size (some ⟨o,0,none⟩) own.length own:=Mem.Rd.keep cZ (fun q X=>rK (w:=w2) (ci _ X));have d0:=a0.bx.c 0 _ rfl;have cr:=a0.bx.f 0;refine aK ?_;refine Az rfl (fun b9 H=> ?_);go_wp2_with fail;refine H _ _ trivial ?_;clear H;refine sF ?_;have ab:=a0.acf (.slice W 1 R);have Y:=(sa.refl rb F.heap.size F).setAt 0 (.slice W 1 R);have a8:Spk F (F.setCell ⟨rb,0,none⟩ (.slice W 1 R)) (fun b=>b<w2.heap.size) rb:=⟨fun j ad=>by obtain⟨t,d4⟩:=a0.bx;obtain⟨i,rfl⟩:∃i,j=i+1+1+1:=⟨j-3,V⟩;rw[AO F rb _ _ t (0,0) d4];simp,fun q X b2=>Y.cell V b2,fun j u hu hk=>
  by
   by_cases ad:j=0;·subst ad;rw[d0]at hu;exact dR
   ·rw[tg _ _ _ _ eC];exact hu⟩
 have c7:=c6.M1 a8;have cc:=Vr cb d0 (.slice W 1 R);have bx:=cR.setAt (EC 4) (g:=rb) cf eQ 0 (.slice W 1 R);clear d0 cr a0 bj ar a8 c6 cb;have e9:=Y.size;generalize F.setCell _ _=U at*;have b5:=ab.bx.c 0 _ rfl;have az:=ab.c2;have O:=(afw U).al rV (.cells #[.int .i64 1,.int .i64 0] 108);have a7:uK (WU 2) 108 2 nS nS (U.alloc (.cells #[.int .i64 1,.int .i64 0] 108)) w.heap.size none 0 0 []:=uK.nil _ _ _ _ _ _ _;have aa:=ab.below O;go_wp2_with(at_builtin;go_must(refine tn (z:=.agg #[.int .i64 0,.int .i64 0]) (bytes:=16) (H1:=w.heap.size) (y:=[.int .i64 1,.int .i64 0]) (cs:=[.int .i64 1,.int .i64 0]) rfl Tryz.underlying99 P9 rfl V V (EC 2) rfl rfl a7 ⟨rfl,rfl,dq⟩ V jy bW bW (fun j u hu=>kN) V (by simp;omega) ?_);intro E B D bw aU I _;have l:=aa.keep I.1 (I.2 _ aa.bx.CG bA) (I.2 _ aa.lt bA);have d8:=l.c2;have d9:=l.fz 2 V);have G:=(sa.refl g D.heap.size D).setAt 2 (.slice E 1 B);have e1:=I.1;have ea:=O.size;have ck:(D.setCell ⟨g,2,none⟩ (.slice E 1 B)).cell? (rN g 2)=some (.slice E 1 B):=EY _ _ _ l.c2;have a4:StX w (D.setCell ⟨g,2,none⟩ (.slice E 1 B)) rb g:=by
  refine⟨sn V G.size,fun b hb cA cz=> ?_,?_,?_⟩;·rw[G.block b V cz,I.2 b V bA,O.block b V,Y.block b V cA];exact b6.2 b hb
  ·rw[G.env.1,aU.os,O.os,Y.env.1];exact b6.env.1
  ·rw[G.env.2.2,aU.output,O.output,Y.env.2.2];exact b6.env.2
 have ch:∀b,b<U.heap.size->D.heap[b]? =U.heap[b]?:=fun b hb=>(I.2 b V bA).trans (O.block b hb)
 have c4:tJ D (fun b=>b<w2.heap.size) p r S:=c7.keep (fun q X=>rK (w:=U) (ch _ V)) ug;have c8:Rd D w2.heap.size (some ⟨o,0,none⟩) own.length own:=Mem.Rd.keep cc (fun q X=>rK (w:=U) (ch _ V));have bO:=(bx.below (EC 4) O).grown (EC 4) I.1 (fun b _ cS _=>I.2 b cS bA);have a8:Sp2 D (D.setCell ⟨g,2,none⟩ (.slice E 1 B)) (fun b=>b<w2.heap.size) g:=⟨⟨_,l.c0⟩,⟨_,l.c1⟩,⟨_,_,_,l.c2⟩,fun q _ b2=>tg _ _ _ _ (fun e=>b2 e.symm)⟩;have c5:=c4.Qu a8;have c9:=Vr c8 l.c2 (.slice E 1 B);have b1:=bO.setAt (EC 4) (g:=g) b0 eQ 2 (.slice E 1 B);have b4:=bw.setAt (EC 2) (g:=g) b0 eQ 2 (.slice E 1 B);have bd:Bj (D.setCell ⟨g,2,none⟩ (.slice E 1 B)) rb g c (.slice W 1 R) M T m E 1 B:=⟨l.bx.off G l.bx.CG (Ak c3),(tg _ _ _ _ eC).trans l.c0,(tg _ _ _ _ eC).trans l.c1,ck,fun j ad=>by rw[vH];exact l.fz j ad,rS l.lt G.size,c3⟩;obtain⟨d7,bn, -, -, -, -⟩:=Ag (y:=[.slice p r C,.int .i64 0,.slice (some ⟨o,0,none⟩) own.length x,.int .u64 h]) b1 V;obtain⟨ds,bk, -, -, -, -⟩:=Ag (y:=[.int .i64 1,.int .i64 0]) b4 V;have e0:=G.size;clear b5 az a7 d8 d9 bw aU a8 c7 c4 cc c8 bO bx ab aa l;go_upto_region 18 with fail;generalize D.setCell _ _=dx at*;have cE:g<dx.heap.size:=by have:=G.size;omega
 refine sR (K:=Kb (fun b=>b=g)) (Kb.keeps _) (sA.of [0,1,2,3,4,5,6,7,8] .nil) [] bm bm bF bm bt (fun wd a tj=> ?_);have vd:=a.cl ck cE;have cy:StX w wd rb g:=⟨sn a4.1 a.size,fun b hb ct cv=>(a.block b (rS hb a4.1)).trans (a4.2.1 b hb ct cv),a.os.trans a4.2.2.1,a.output.trans a4.2.2.2⟩;have cx:NJ w.heap.size wd rb g c M T m S own:=by have bv:=b1.below (EC 4) a;have cj:=b4.below (EC 2) a;have b3:=bd.below a;rw[bn]at bv b3;rw[bk]at cj b3;exact⟨d7,R,ds,B,p,r,C,o,x,h,b3,bv,cj,(c5.below a bP).keep (fun _ _=>rfl) (fun b hb=>by have:=a.size;omega),d2,d5,(c9.sV a V).more (by have:=a.size;omega)⟩
 clear a tj bd b1 b4 c5 c9 bn bk;refine bg ?_;refine sF ?_;go_wp2_with fail;go_ret3;exact⟨bA,cy,cx⟩
end
