import Derived.Test.YtccjlcadbpinfaaGreatDoorX5
import Derived.Test.YtccjlcadbpinfaaGreatDoorX6
set_option linter.all false
set_option maxRecDepth 100000
set_option maxHeartbeats 8000000
namespace Go.Proofs.YtccjlcadbpinfaaGreatDoor.Tp
open ChangeShapes WideShapes ChangeAt RowKit
open Num Mem Can
def XX(g:Nat)(A:aft)(n c B:Nat)(xs:afs)(o:B<=g)(r:n<=100000000)(t:n<=c):∀f,f<=100000000->I7 xs g A n c B f/\Tn xs g A n c B f/\YK xs g A n c B f:=by
 intro f;induction f using Nat.strongRecOn with
 |_ f ih=>
  intro q;have p:∀m,m<f->I7 xs g A n c B m:=fun m v=>(ih m v V).1
  refine⟨?_,fun wd d a w R b l j k e i=>aae g A n c B a f d xs wd w R p q b l j k o r t e i,fun wd d a w R b l j k e i=>U7 g A n c B a f d xs wd w R p q b l j k o r t e i⟩;cases f with
  |zero=>intro wd d w R b;simp[wU]at b
  |succ f=>intro wd d w R b l j k e i;have h:=ih f V V;exact Yv g A n c B f d xs wd w R h.2.1 h.2.2 b l j k o e i
def aaP{xs:afs}{a:Nat}{e k:Int}{wd:Wd}(b:e≠0):(Dz xs a e wd k).2.1=e:=by unfold Dz D1;simp[b]
def Yx{xs:afs}{a:Nat}{e k:Int}{wd:Wd}(b:sH xs a=.error e):(Dz xs a 0 wd k).2.1=e:=by have d:=wB b;simp[Dz,D1,b,Gm,d]
def aaQ{xs:afs}{a:Nat}{k:Int}{wd w:Wd}(b:sH xs a=.ok w):(Dz xs a 0 wd k).2.1=if w.kind=k then 0 else 20:=by simp[Dz,D1,b,Cw,Gm]
def Qn:Except Int J->J
 | .ok j=>j
 | .error _=>J.zero
def XY:Except Int J->Int
 | .ok _=>0
 | .error e=>e
def A9{b:Func}{p q:Tmp}{te:Value}(h:b.results= #[.cell p 60,.tmp q]){a:Array Value}{w:World}{r n c n' c':Nat}{k i:Int}{t:ByteArray}{A A':aft}(hp:a.getD p undef=sg r)(hq:a.getD q undef=te)(g:Ti w r k i t A n c A' n' c'):(results b a).run Tryz.prog w=.ok (.tuple #[jA k i t A n c A' n' c',te]) w:=by have d:a[p]?.getD undef=sg r:=gg;have e:a[q]?.getD undef=te:=fY;simp only[results,h];simp[uJ,Result.andThen,d,e,asAddr,Qd g]
def abk(w:World)(j:J)(te:Value)(e:Ending)(w':World):Prop:=∃(k i:Int)(t:ByteArray)(a:aft)(g c1:Nat)(d:aft)(h c2:Nat),e=.returned (.tuple #[jA k i t a g c1 d h c2,te])/\uq w' (fun b=>w.heap.size<=b/\b<w'.heap.size) (jv k i t a g c1 d h c2) j/\afv w w'
def Mj(g:Nat)(A:aft)(n c B f:Nat)(xs:afs)(l:I7 xs g A n c B f)(o:xs.length=n){i:Except Int (J×Nat)}(a:(match sH xs 0 with| .error e=>some (.error e)| .ok w=>wU xs f w 0)=some i){wd:Wd}{w1:World}(b:CD w1 g A n c (JL 0 (sH xs 0)) (Gm (sH xs 0)) (Li wd (sH xs 0)))(j:g<w1.heap.size)(k:Rd w1 B A n xs):Calls Tryz.prog 51 #[sg g,.int .i64 (Cw (sH xs 0)).kind,.int .i64 0] w1 (Eb xs g A n c i w1):=by
 cases d:sH xs 0 with
 |error e=>rw[d]at a b;simp only[sq]at a;subst a;exact Ip g A n c _ 0 _ xs _ w1 b (wB d) j
 |ok m=>rw[d]at a b;have:=y9 V d;exact l m 0 w1 i a b j k V V
def QW(A:aft)(n c B f:Nat)(xs:afs)(w:World)(R:Except Int J)(l:C6 xs f=some R)(ck:f<=100000000)(aU:Rd w B A n xs)(c6:B<=w.heap.size)(W:n<=100000000)(X:n<=c):Calls Tryz.prog 25 #[.slice A n c] w (abk w (Qn R) (.int .i64 (XY R))):=by
 have ct:=aU.len;unfold C6 at l;by_cases ab:20000<xs.length
 ·rw[rG ab]at l;injection l with l;subst l;have cc:(20000:Int)<(n:Int):=V;have cf:decide ((20000:Int)<(n:Int))=true:=by simp;omega
  simp only[Qn,XY];go_enter Tryz.func25,Tryz.ntmps25;go_wp2_with fail;refine sc (A9 (te:=.int .i64 3) (k:=0) (i:=0) (t:=⟨#[]⟩) (A:=none) (n:=0) (c:=0) (A':=none) (n':=0) (c':=0) rfl rfl rfl ⟨bi,bi,bi,bi,bi⟩) rfl ?_;refine⟨0,0,⟨#[]⟩,none,0,0,none,0,0,rfl,uq.zero _ _,?_⟩;exact lX
 ·rw[rB ab]at l;have cc:¬(20000:Int)<(n:Int):=V;have cf:decide ((20000:Int)<(n:Int))=false:=by simp;omega
  have cv:∃g,(match sH xs 0 with| .error e=>some (.error e)| .ok w=>wU xs f w 0)=some g/\(match g with| .error e=>some (.error e)| .ok (j,a)=>match sH xs a with| .error e=>some (.error e)| .ok z=>if z.kind=11 then some (.ok j)else some (.error 20))=some R:=by
   cases x:sH xs 0 with
   |error e=>rw[x]at l;exact⟨.error e,rfl,l⟩
   |ok v=>
    rw[x]at l;simp only at l|-;cases b3:wU xs f v 0 with
    |none=>rw[b3]at l;cases l
    |some g=>
     rw[b3]at l;refine⟨g,rfl,?_⟩;cases g with
     |error e=>exact l
     |ok p=>exact l
  obtain⟨g,a8,a7⟩:=cv;have bn:=rz a7;have bp:=rz a8;clear a7 a8;go_enter Tryz.func25,Tryz.ntmps25;go_upto_region 4 with fail;have a9:=((afw w).al rV (jZ)).alloc bA (.cells #[.slice A n c,.int .i64 0,.int .i64 0,.int .i64 0,.int .i64 0,.string ⟨#[]⟩,.int .i64 0,.int .i64 0] 119);have bw:=(vW.new w 0 0 ⟨#[]⟩ none 0 0 none 0 0 w.heap.size rfl).below (xn.alloc rV (.cells #[.slice A n c,.int .i64 0,.int .i64 0,.int .i64 0,.int .i64 0,.string ⟨#[]⟩,.int .i64 0,.int .i64 0] 119)) bA;have S:CD ((w.alloc (jZ)).alloc (.cells #[.slice A n c,.int .i64 0,.int .i64 0,.int .i64 0,.int .i64 0,.string ⟨#[]⟩,.int .i64 0,.int .i64 0] 119)) (w.heap.size+1) A n c ((0:Nat):Int) 0 ⟨0,0,[],0,0⟩:=⟨⟨bi,bi,bi,bi,bi,bi,bi,bi⟩,fun j=>bi⟩;have cz:w.heap.size+1<((w.alloc (jZ)).alloc (.cells #[.slice A n c,.int .i64 0,.int .i64 0,.int .i64 0,.int .i64 0,.string ⟨#[]⟩,.int .i64 0,.int .i64 0] 119)).heap.size:=bA;have b0:=aU.sV a9 c6;generalize(w.alloc _).alloc _=w1 at*;obtain⟨c9,_,_⟩:=XX (w.heap.size+1) A n c B xs V W X f ck;have af:=fun(z:World) S T c3=>Mj (w.heap.size+1) A n c B f xs c9 ct (wd:=⟨0,0,[],0,0⟩) (w1:=z) bp.out S T c3
  have b2:=yz (w.heap.size+1) A n c B 0 xs ⟨0,0,[],0,0⟩ w1 S cz b0 V W X (sb _);generalize(Cw (sH xs 0)).kind=dx at*;generalize JL 0 (sH xs 0)=dr at*;generalize Gm (sH xs 0)=te at*;generalize Li ⟨0,0,[],0,0⟩ (sH xs 0)=ds at*;have br:=rz b2;have bk:=rz af;clear b2 af;go_wp2_with fail;refine sG br.out fun z ⟨T,M⟩=> ?_
  have d4:=M.size;have bx:=bw.off M V V;have b1:=b0.off M V V;have ch:=a9.trans (M.below (B':=w.heap.size) V V);go_wp2_with fail;refine(bk.out z T V b1).mono ?_;rintro e' C ⟨k,i,t,E,H,c1,F,I,c2,rfl,cp,⟨o,y,c5,a5,a6⟩,N⟩;have d5:=N.size;have bz:=bx.off N V V;have cx:=b1.off N V V;have ci:=ch.trans (N.below (B':=w.heap.size) V V);go_upto_region 5 with fail;have D:=(afw C).al rV (jC k i t E H c1 F I c2);have bs:=vW.new C k i t E H c1 F I c2 C.heap.size rfl;have bO:=bz.below D V;have c4:=c5.below D V;have cy:=cx.sV D V;have cj:=ci.sY V D;have cr:=xz.keep (Y:=fun b=>w.heap.size+1<b/\b<C.heap.size) cp (fun q O=>D.cell O.2) (fun b hb=>⟨V,hb.2⟩);have d6:=D.l1;generalize C.alloc _=d1 at*;generalize C.heap.size=d8 at*;have cb:rE g=0->o<=n:=fun h=>
   by
    cases g with
    |error e=>exact absurd h (a6 e rfl)
    |ok p=>obtain⟨j,Q⟩:=p;obtain⟨rfl,h⟩:=a5 j Q rfl;omega
  have cA:=Ni (w.heap.size+1) A n c B o (rE g) 11 xs y d1 c4 V cy V W X cb;have ad:((Dz xs o (rE g) y 11).2.1=0->∃j,rJ g=some j/\R=.ok j)/\((Dz xs o (rE g) y 11).2.1≠0->R=.error (Dz xs o (rE g) y 11).2.1):=by
   have m:=bn.out;cases g with
   |error e=>have r:=a6 e rfl;simp only[sq]at m;simp only[rE];rw[aaP r];exact⟨fun h=>absurd h r,fun _=>m.symm⟩
   |ok p=>
    obtain⟨j,Q⟩:=p;obtain⟨rfl,_⟩:=a5 j Q rfl;simp only at m;simp only[rE,rJ];cases x:sH xs o with
    |error e=>rw[x]at m;have r:=wB x;simp only[sq]at m;rw[Yx x];exact⟨fun h=>absurd h r,fun _=>m.symm⟩
    |ok z=>
     rw[x]at m;rw[aaQ x];by_cases ar:z.kind=11;·simp only[rG ar,sq]at m|-;exact⟨fun _=>⟨j,rfl,m.symm⟩,fun h=>absurd rfl h⟩
     ·simp only[rB ar,sq]at m|-;exact⟨fun h=>ic,fun _=>m.symm⟩
  generalize(Dz xs o (rE g) y 11).1=dz at*;generalize(Dz xs o (rE g) y 11).2.1=a0 at*;generalize(Dz xs o (rE g) y 11).2.2=e0 at*;have a1:=rz ad;clear ad;go_wp2_with fail;refine sG cA fun L ⟨a4,G⟩=> ?_
  have d7:=G.size;have a3:=bO.off G V V;have bv:=bs.off G V V;have an:=xz.keep (Y:=fun b=>w.heap.size+1<b/\b<L.heap.size) cr (fun q O=>G.cell V V) (fun b hb=>⟨hb.1,V⟩);have aa:=cj.trans (G.below (B':=w.heap.size) V V);have a2:=rz a4;obtain⟨⟨b4,b5,Z,b6,b7,b8,b9,bd⟩,be⟩:=a4;by_cases r:a0=0;·obtain⟨j,cs,rfl⟩:=a1.out.1 r;subst r;rw[cs]at an;simp only[Qn,XY];obtain⟨⟨d9,dd,df,di,dj⟩,dp⟩:=bv;obtain⟨⟨cE,cR,cS,cW,cZ⟩,d0⟩:=a3;go_wp2_with fail;have az:sa w.heap.size L.heap.size L (((((L.setCell ⟨w.heap.size,0,none⟩ (.int .i64 k)).setCell ⟨w.heap.size,1,none⟩ (.int .i64 i)).setCell ⟨w.heap.size,2,none⟩ (.string t)).setCell ⟨w.heap.size,3,none⟩ (.slice E H c1)).setCell ⟨w.heap.size,4,none⟩ (.slice F I c2)):=(((((sa.refl _ _ _).setAt 0 _).setAt 1 _).setAt 2 _).setAt 3 _).setAt 4 _;refine sc (A9 (te:=.int .i64 0) (k:=k) (i:=i) (t:=t) (A:=E) (n:=H) (c:=c1) (A':=F) (n':=I) (c':=c2) rfl rfl rfl ⟨bi,bi,bi,bi,bi⟩) rfl ?_;refine⟨k,i,t,E,H,c1,F,I,c2,rfl,(show uq L _ _ j from an).keep (fun q O=>az.cell O.2 V) (fun b hb=>⟨V,by have:=az.size;omega⟩),?_⟩;repeat' (first|with_reducible exact aa|with_reducible refine Below.setCell ?_ bl _)
  ·have c8:=a1.out.2 r;subst c8;have d3:(a0==0)=false:=rA.2 r;simp only[Qn,XY];obtain⟨⟨b4,b5,Z,b6,b7,b8,b9,bd⟩,be⟩:=a2.out;go_upto_region 7 with fail;refine sR (K:=vp (fun p=>p.block=w.heap.size)) (vp.keeps _) (sA.of [0,1,2,3,4,5,6] .nil) [5] bm bm bF bm bt (fun e1 U tj=> ?_);have bj:=(a2.out.below U V);obtain⟨⟨b4,b5,Z,b6,b7,b8,b9,bd⟩,be⟩:=bj;obtain⟨⟨cE,cR,cS,cW,cZ⟩,d0⟩:=a3.below U V;have Bv:=aa.sY V U;repeat((first|(refine tp rfl rfl rfl bo ?_)|(refine tF rfl rfl rfl ?_)|(refine tA rfl rfl rfl (w.heap.size+2) V _ (by intro w' hb;have e2:=(hb.cell ⟨w.heap.size+1,2,none⟩ bl cM).trans Z;clear hb;go_simp;first|done|with_reducible rfl) ?_));simp only[Act.put,rH,rC,rF])
   refine se rfl rfl (w.heap.size+2) V (fun d2 c7=> ?_);go_wp2_with fail;refine c7 _ _ ?_ ?_;·exact bZ
   repeat((first|(refine tp rfl rfl rfl bo ?_)|(refine tF rfl rfl rfl ?_)|(refine tA rfl rfl rfl (w.heap.size+2) V _ bJ ?_));simp only[Act.put,rH,rC,rF])
   refine sF ?_;go_wp2_with fail;refine sc (A9 (te:=.int .i64 a0) (k:=0) (i:=0) (t:=⟨#[]⟩) (A:=none) (n:=0) (c:=0) (A':=none) (n':=0) (c':=0) rfl rfl rfl ⟨bi,bi,bi,bi,bi⟩) rfl ?_;refine⟨0,0,⟨#[]⟩,none,0,0,none,0,0,rfl,uq.zero _ _,?_⟩;exact l7
mutual
def um:J->Int
 | .mk k _ _ l _=>if k=5\/k=6 then AD l 1 else 0
def AD:List J->Int->Int
 | [],n=>n
 |x::r,n=>AD r (max n (1+um x))
end
def Hl:∀(l:List J)(n:Int),n<=AD l n
 | [],n=>by simp[AD]
 |x::r,n=>by unfold AD;have:=Hl r (max n (1+um x));omega
def Jd:∀(l:List J)(n:Int)(i:Nat)(h:i<l.length),1+um l[i]<=AD l n
 |x::r,n,0,_=>by unfold AD;have:=Hl r (max n (1+um x));simp only[List.getElem_cons_zero];omega
 |x::r,n,i+1,h=>by unfold AD;simp only[List.getElem_cons_succ];exact Jd r _ i eK
def Ue(j:J):0<=um j:=by
 cases j with
 |mk k i t l ks=>
  unfold um;split;·have:=Hl l 1;omega
  ·omega
def uq.form{w:World}{X:afu}{cs:List Value}{j:J}(h:uq w X cs j):∃(k i:Int)(t:ByteArray)(A:aft)(n c:Nat)(A':aft)(n' c':Nat),cs=jv k i t A n c A' n' c':=by cases h;exact⟨_,_,_,_,_,_,_,_,_,rfl⟩
def zr{w:World}{X Y:afu}{A:aft}{n:Nat}{uQ:List (List Value)}{items:List J}(hr:Row w X 5 A n uQ)(d:uQ.length=items.length)(hi:∀(i:Nat)(h:i<uQ.length)(a:i<items.length),uq w Y uQ[i] items[i]){j:Nat}(b:j<n):∃g p x k i t A1 n1 c1 A2 n2 c2,A=some ⟨g,p,none⟩/\X g/\items[j]? =some x/\uq w Y (jv k i t A1 n1 c1 A2 n2 c2) x/\w.cell? (rN g (p+j*5))=some (.int .i64 k)/\w.cell? (rN g (p+j*5+1))=some (.int .i64 i)/\w.cell? (rN g (p+j*5+2))=some (.string t)/\w.cell? (rN g (p+j*5+3))=some (.slice A1 n1 c1)/\w.cell? (rN g (p+j*5+4))=some (.slice A2 n2 c2):=nX
def Te:∀(N:Nat)(j:J),SizeOf.sizeOf j<=N->um j<=1000000->∀(w:World)(X:afu)(k i:Int)(t:ByteArray)(A:aft)(n c:Nat)(A':aft)(n' c':Nat),uq w X (jv k i t A n c A' n' c') j->(∀b,X b->b<w.heap.size)->Calls Tryz.prog 29 #[jA k i t A n c A' n' c'] w (vh w (.int .i64 (um j))):=by
 intro N;induction N with
 |zero=>exact fq
 |succ N ih=>
  intro j hj' d w X k i t A n c A' n' c' h hX;cases h with
  |mk hr hl hi z B C v y=>
   rename_i text items keys o;unfold um at d|-;by_cases a:k=5\/k=6
   ·rw[rG a]at d|-;obtain⟨R,e⟩:=sW (AD items 1);rw[<-e]at d|-;have HR:=rz e;clear e;go_enter Tryz.func29,Tryz.ntmps29;rcases a with rfl|rfl;·go_wp2_with fail;have sK:=(afw w).al rV (jC 5 i ⟨text.toArray⟩ A n c A' n' c');have m:=sK.l1;have l:(w.alloc (jC 5 i ⟨text.toArray⟩ A n c A' n' c')).cell? (rN w.heap.size 3)=some (.slice A n c):=bi;exact lR
    ·go_wp2_with fail;have sK:=(afw w).al rV (jC 6 i ⟨text.toArray⟩ A n c A' n' c');have m:=sK.l1;have l:(w.alloc (jC 6 i ⟨text.toArray⟩ A n c A' n' c')).cell? (rN w.heap.size 3)=some (.slice A n c):=bi;exact lR
   ·rw[rB a]at d|-;have q:(k==5)=false:=rA.2 (fun h=>a (.inl h));have r:(k==6)=false:=rA.2 (fun h=>a (.inr h));go_enter Tryz.func29,Tryz.ntmps29;go_wp2_with fail;go_ret;exact⟨rfl,xn.al rV _⟩
def HB(ks:List afs)(k:afs):Int:=Lib.idxOfS (Ef ks) ⟨k.toArray⟩
def uw(j:J)(key:afs):Option J:=if j.kind=6/\0<=HB j.keys key then j.items[(HB j.keys key).toNat]? else none
def I0{X:afu}{A:aft}{n c:Nat}{ks:List afs}(k:afs)(w:World)(h:Row w X 1 A n (uL ks))(e:n<=1000000000):Calls Tryz.prog 178 #[.slice A n c,.string ⟨k.toArray⟩] w (zW w (.int .i64 (HB ks k))):=by
 have hl:ks.length=n:=oy;unfold HB;by_cases a:n=0;·subst a;have:ks=[]:=rT hl;subst this;exact(Tryz.slices_Index_string_empty A c ⟨k.toArray⟩ w).mono fun _ _ h=>⟨h.1,h.2.symm⟩
 ·obtain⟨b,off,rfl,d⟩:=GF h V;refine(Tryz.slices_Index_string b off n c (Ef ks) ⟨k.toArray⟩ w jE V d).mono fun _ _ h=>⟨?_,h.2.symm⟩
  rw[h.1,yo jE]
def yZ{w:World}{X:afu}{A':aft}{n':Nat}{keys:List afs}{w':World}{B:Nat}(h:Row w X 1 A' n' (uL keys))(hb:Below B w w')(a:∀b,X b->b<B):Row w' X 1 A' n' (uL keys):=h.keep (fun q d=>hb.cell (a _ d)) ug
def yH(j:J)(key:afs)(w:World)(X:afu)(k i:Int)(t:ByteArray)(A:aft)(n c:Nat)(A':aft)(n' c':Nat)(h:uq w X (jv k i t A n c A' n' c') j)(F:∀b,X b->b<w.heap.size):Calls Tryz.prog 207 #[jA k i t A n c A' n' c',.string ⟨key.toArray⟩] w fun e w'=>∃(o l:Int)(y:ByteArray)(a:aft)(r c1:Nat)(d:aft)(v c2:Nat),e=.returned (.tuple #[jA o l y a r c1 d v c2,.bool (uw j key).isSome])/\uq w' X (jv o l y a r c1 d v c2) ((uw j key).getD J.zero)/\afv w w':=by
 cases h with
 |mk S a4 a1 a3 b5 b6 az aU=>
  rename_i text items keys ar;obtain⟨z,H⟩:=sW (uw (.mk k i text items keys) key);rw[<-H];have D:=rz (show z=if k=6/\0<=HB keys key then items[(HB keys key).toNat]? else none from H);clear H;have b3:=S.len;have sK:=((afw w).al rV (jC k i ⟨text.toArray⟩ A n c A' n' c')).alloc bA (jZ);have C:=I0 (c:=c') key _ (yZ a3 sK F) V;obtain⟨L,I⟩:=sW (HB keys key);rw[<-I]at C;have G:=rz I;clear I;have U:=(vW.new w k i ⟨text.toArray⟩ A n c A' n' c' w.heap.size rfl).below (xn.alloc rV (jZ)) bA;have W:=vW.new (w.alloc (jC k i ⟨text.toArray⟩ A n c A' n' c')) 0 0 ⟨#[]⟩ none 0 0 none 0 0 (w.heap.size+1) bA;have b8:w.heap.size+1<((w.alloc (jC k i ⟨text.toArray⟩ A n c A' n' c')).alloc (jZ)).heap.size:=bA;go_enter Tryz.func207,Tryz.ntmps207;go_upto_region 1 with fail;generalize(w.alloc _).alloc _=w1 at*;obtain⟨⟨a9,aa,ab,ad,af⟩,an⟩:=U;obtain⟨⟨bn,bp,br,bs,bv⟩,bw⟩:=W;go_wp2_with fail;refine tZ C ?_;clear C;by_cases E:k=6
  ·subst E;by_cases K:0<=L
   ·obtain⟨m,rfl⟩:=uR K;have b4:decide ((m:Int)<0)=false:=bA;by_cases a5:m<n
    ·have a6:(m:Int)<(n:Int):=V;have Y:decide ((n:Int)<=(m:Int))=false:=by simp;omega
     have Z:decide (n<=m)=false:=by simp;omega
     obtain⟨g,p,x,o,l,y,a,r,c1,d,v,c2,rfl,a0,T,C,M,N,O,Q,R⟩:=zr S a4 a1 a5;have B:=F g a0;have b9:=sK.cl M B;have bd:=sK.cl N B;have be:=sK.cl O B;have bj:=sK.cl Q B;have bk:=sK.cl R B;obtain rfl:z=some x:=by rw[D.out,<-G.out,rG ⟨rfl,V⟩,su,T]
     simp only[DH,Option.getD_some];have a2:=C.stay sK F;clear M N O Q R T;go_wp2_with fail;refine sc (A9 (te:=.bool true) (k:=o) (i:=l) (t:=y) (A:=a) (n:=r) (c:=c1) (A':=d) (n':=v) (c':=c2) rfl rfl rfl ⟨bi,bi,bi,bi,bi⟩) rfl ?_;refine⟨o,l,y,a,r,c1,d,v,c2,rfl,a2.keep (fun q a8=> ?_) ug,?_⟩;·have b7:=F _ a8;have a7:sa (w.heap.size+1) w1.heap.size w1 (((((w1.setCell ⟨w.heap.size+1,0,none⟩ (.int .i64 o)).setCell ⟨w.heap.size+1,1,none⟩ (.int .i64 l)).setCell ⟨w.heap.size+1,2,none⟩ (.string y)).setCell ⟨w.heap.size+1,3,none⟩ (.slice a r c1)).setCell ⟨w.heap.size+1,4,none⟩ (.slice d v c2)):=(((((sa.refl _ _ _).setAt 0 _).setAt 1 _).setAt 2 _).setAt 3 _).setAt 4 _;exact a7.cell V V
     ·exact mF
    ·have a6:(n:Int)<=(m:Int):=V;have Y:decide ((n:Int)<=(m:Int))=true:=by simp;omega
     have Z:decide (n<=m)=true:=by simp;omega
     obtain rfl:z=none:=by rw[D.out,<-G.out,rG ⟨rfl,V⟩,su,tu V]
     simp only[DG,Option.getD_none];go_wp2_with fail;exact mg
   ·have b0:L<0:=V;obtain rfl:z=none:=by rw[D.out,<-G.out];exact rB (fun h=>K h.2)
    simp only[DG,Option.getD_none];clear K;go_wp2_with fail;exact mg
  ·have b2:(k==6)=false:=rA.2 E;obtain rfl:z=none:=by rw[D.out];exact rB (fun h=>E h.1)
   simp only[DG,Option.getD_none];have b1:decide (k=6)=false:=by simp[E]
   go_wp2_with fail;exact mg
structure Fd where
 name:afs
 aliases:List afs
 type:Int
 has:Bool
 sL:J
structure Nd where
 kind:Int
 name:afs
 aliases:List afs
 fields:List Fd
 symbols:List afs
 has:Bool
 sL:afs
 size:Int
 items:Int
 rX:List Int
structure Sc where
 nodes:List Nd
 root:Int
def xZ(l:List Int):List (List Value):=l.map fun i=>[.int .i64 i]
inductive DB(w:World)(X:afu):List Value->Fd->Prop
 |mk {f:Fd} {A:aft} {n c:Nat} {k i:Int} {t:ByteArray} {B:aft} {m d:Nat} {B':aft} {m' d':Nat} (ha:Row w X 1 A n (uL f.aliases)) (hc:n<=c) (hn:n<=100000000) (hj:uq w X (jv k i t B m d B' m' d') f.sL):DB w X [.string ⟨f.name.toArray⟩,.slice A n c,.int .i64 f.type,.bool f.has,.int .i64 k,.int .i64 i,.string t,.slice B m d,.slice B' m' d'] f
def DB.keep{w w':World}{X Y:afu}{cs:List Value}{f:Fd}(h:DB w X cs f)(d:∀q:Addr,X q.block->w'.cell? q=w.cell? q)(a:∀b,X b->Y b):DB w' Y cs f:=by
 cases h with
 |mk e g j i=>exact .mk (e.keep d a) g j (i.keep d a)
def acm:Way DB 9:=⟨fun h b a=>h.keep b a,fun h=>by cases h;rfl,fun h=>kl⟩
def xu(w:World)(X:afu)(A:aft)(n:Nat)(l:List Fd):Prop:=∃a,Row w X 9 A n a/\a.length=l.length/\∀(i:Nat)(h:i<a.length)(b:i<l.length),DB w X a[i] l[i]
def xu.keep{w w':World}{X Y:afu}{A:aft}{n:Nat}{l:List Fd}(h:xu w X A n l)(hk:∀q:Addr,X q.block->w'.cell? q=w.cell? q)(hY:∀b,X b->Y b):xu w' Y A n l:=gH
def xu.len{w:World}{X:afu}{A:aft}{n:Nat}{l:List Fd}(h:xu w X A n l):l.length=n:=gy
inductive Lw(w:World)(X:afu):List Value->Nd->Prop
 |mk {x:Nd} {A1:aft} {n1 c1:Nat} {A2:aft} {n2 c2:Nat} {A3:aft} {n3 c3:Nat} {A4:aft} {n4 c4:Nat} (h1:Row w X 1 A1 n1 (uL x.aliases)) (h2:xu w X A2 n2 x.fields) (h3:Row w X 1 A3 n3 (uL x.symbols)) (h4:Row w X 1 A4 n4 (xZ x.rX)) (hc1:n1<=c1) (hc2:n2<=c2) (hc3:n3<=c3) (hc4:n4<=c4) (hn1:n1<=100000000) (hn2:n2<=100000000) (hn3:n3<=100000000) (hn4:n4<=100000000):Lw w X [.int .i64 x.kind,.string ⟨x.name.toArray⟩,.slice A1 n1 c1,.slice A2 n2 c2,.slice A3 n3 c3,.bool x.has,.string ⟨x.sL.toArray⟩,.int .i64 x.size,.int .i64 x.items,.slice A4 n4 c4] x
section
variable{w w':World}{B:Nat}
def Lw.keep{X Y:afu}{cs:List Value}{x:Nd}(h:Lw w X cs x)(d:∀q:Addr,X q.block->w'.cell? q=w.cell? q)(a:∀b,X b->Y b):Lw w' Y cs x:=by
 cases h with
 |mk e g i j k l m n o p r t=>exact .mk (e.keep d a) (g.keep d a) (i.keep d a) (j.keep d a) k l m n o p r t
def adX:Way Lw 10:=⟨fun h b a=>h.keep b a,fun h=>by cases h;rfl,fun h=>kl⟩
def tJ(w:World)(X:afu)(A:aft)(n:Nat)(l:List Nd):Prop:=∃a,Row w X 10 A n a/\a.length=l.length/\∀(i:Nat)(h:i<a.length)(b:i<l.length),Lw w X a[i] l[i]
def tJ.keep{X Y:afu}{A:aft}{n:Nat}{l:List Nd}(h:tJ w X A n l)(hk:∀q:Addr,X q.block->w'.cell? q=w.cell? q)(hY:∀b,X b->Y b):tJ w' Y A n l:=gH
def tJ.len{X:afu}{A:aft}{n:Nat}{l:List Nd}(h:tJ w X A n l):l.length=n:=gy
def tJ.below{X:afu}{A:aft}{n:Nat}{l:List Nd}(h:tJ w X A n l)(hb:Below B w w')(a:∀b,X b->b<B):tJ w' X A n l:=h.keep (fun q d=>hb.cell (a _ d)) ug
def xu.below{X:afu}{A:aft}{n:Nat}{l:List Fd}(h:xu w X A n l)(hb:Below B w w')(a:∀b,X b->b<B):xu w' X A n l:=h.keep (fun q d=>hb.cell (a _ d)) ug
def Row.below{X:afu}{A:aft}{k n:Nat}{l:List (List Value)}(h:Row w X k A n l)(hb:Below B w w')(a:∀b,X b->b<B):Row w' X k A n l:=h.keep (fun q d=>hb.cell (a _ d)) ug
def uY{X:afu}{A:aft}{n:Nat}{l:List Nd}(h:tJ w X A n l){j:Nat}(W:j<n):∃g p x m b c1 o d c2 q e t r i v,A=some ⟨g,p,none⟩/\X g/\l[j]? =some x/\(w.cell? (rN g (p+j*10))=some (.int .i64 x.kind)/\w.cell? (rN g (p+j*10+1))=some (.string ⟨x.name.toArray⟩)/\w.cell? (rN g (p+j*10+2))=some (.slice m b c1)/\w.cell? (rN g (p+j*10+3))=some (.slice o d c2)/\w.cell? (rN g (p+j*10+4))=some (.slice q e t)/\w.cell? (rN g (p+j*10+5))=some (.bool x.has)/\w.cell? (rN g (p+j*10+6))=some (.string ⟨x.sL.toArray⟩)/\w.cell? (rN g (p+j*10+7))=some (.int .i64 x.size)/\w.cell? (rN g (p+j*10+8))=some (.int .i64 x.items)/\w.cell? (rN g (p+j*10+9))=some (.slice r i v))/\(Row w X 1 m b (uL x.aliases)/\xu w X o d x.fields/\Row w X 1 q e (uL x.symbols)/\Row w X 1 r i (xZ x.rX))/\(b<=c1/\d<=c2/\e<=t/\i<=v)/\b<=100000000/\d<=100000000/\e<=100000000/\i<=100000000:=by
 obtain⟨k,hr,Y,I⟩:=h;obtain⟨g,p,B,H,C⟩:=hr.pos V;have y:j<k.length:=cn;have z:j<l.length:=V;have O:=I j y z;have a:=(C j k[j] (rD y)).2;generalize k[j]=cs at*;generalize Q:l[j]=x at*;cases O with
 |mk R S T U D E F G K L M N=>exact⟨g,p,_,_,_,_,_,_,_,_,_,_,_,_,_,B,H,by rw[rD z,Q],⟨a 0 _ rfl,a 1 _ rfl,a 2 _ rfl,a 3 _ rfl,a 4 _ rfl,a 5 _ rfl,a 6 _ rfl,a 7 _ rfl,a 8 _ rfl,a 9 _ rfl⟩,⟨R,S,T,U⟩,⟨D,E,F,G⟩,K,L,M,N⟩
def zq{X:afu}{A:aft}{n:Nat}{l:List Fd}(h:xu w X A n l){j:Nat}(M:j<n):∃g p x o b c1 k i t B m d B' y q,A=some ⟨g,p,none⟩/\X g/\l[j]? =some x/\(w.cell? (rN g (p+j*9))=some (.string ⟨x.name.toArray⟩)/\w.cell? (rN g (p+j*9+1))=some (.slice o b c1)/\w.cell? (rN g (p+j*9+2))=some (.int .i64 x.type)/\w.cell? (rN g (p+j*9+3))=some (.bool x.has)/\w.cell? (rN g (p+j*9+4))=some (.int .i64 k)/\w.cell? (rN g (p+j*9+5))=some (.int .i64 i)/\w.cell? (rN g (p+j*9+6))=some (.string t)/\w.cell? (rN g (p+j*9+7))=some (.slice B m d)/\w.cell? (rN g (p+j*9+8))=some (.slice B' y q))/\Row w X 1 o b (uL x.aliases)/\uq w X (jv k i t B m d B' y q) x.sL/\b<=c1/\b<=100000000:=by
 obtain⟨e,hr,N,G⟩:=h;obtain⟨g,p,z,F,D⟩:=hr.pos V;have r:j<e.length:=cn;have v:j<l.length:=V;have K:=G j r v;have a:=(D j e[j] (rD r)).2;generalize e[j]=cs at*;generalize L:l[j]=x at*;cases K with
 |mk C E I H=>exact⟨g,p,_,_,_,_,_,_,_,_,_,_,_,_,_,z,F,by rw[rD v,L],⟨a 0 _ rfl,a 1 _ rfl,a 2 _ rfl,a 3 _ rfl,a 4 _ rfl,a 5 _ rfl,a 6 _ rfl,a 7 _ rfl,a 8 _ rfl⟩,C,H,E,I⟩
end
abbrev nA(x:Nd)(a:aft)(i c1:Nat)(b:aft)(j c2:Nat)(d:aft)(k g:Nat)(e:aft)(l h:Nat):Value:=.agg #[.int .i64 x.kind,.string ⟨x.name.toArray⟩,.slice a i c1,.slice b j c2,.slice d k g,.bool x.has,.string ⟨x.sL.toArray⟩,.int .i64 x.size,.int .i64 x.items,.slice e l h]
abbrev nC(x:Nd)(a:aft)(i c1:Nat)(b:aft)(j c2:Nat)(d:aft)(k g:Nat)(e:aft)(l h:Nat):Go.Obj:=.cells #[.int .i64 x.kind,.string ⟨x.name.toArray⟩,.slice a i c1,.slice b j c2,.slice d k g,.bool x.has,.string ⟨x.sL.toArray⟩,.int .i64 x.size,.int .i64 x.items,.slice e l h] 79
abbrev nL(x:Nd)(a:aft)(i c1:Nat)(b:aft)(j c2:Nat)(d:aft)(k g:Nat)(e:aft)(l h:Nat):List Value:=[.int .i64 x.kind,.string ⟨x.name.toArray⟩,.slice a i c1,.slice b j c2,.slice d k g,.bool x.has,.string ⟨x.sL.toArray⟩,.int .i64 x.size,.int .i64 x.items,.slice e l h]
abbrev fC(f:Fd)(a:aft)(h e:Nat)(k i:Int)(t:ByteArray)(B:aft)(m d:Nat)(B':aft)(g b:Nat):Go.Obj:=.cells #[.string ⟨f.name.toArray⟩,.slice a h e,.int .i64 f.type,.bool f.has,.int .i64 k,.int .i64 i,.string t,.slice B m d,.slice B' g b] 82
abbrev fL(f:Fd)(a:aft)(h e:Nat)(k i:Int)(t:ByteArray)(B:aft)(m d:Nat)(B':aft)(g b:Nat):List Value:=[.string ⟨f.name.toArray⟩,.slice a h e,.int .i64 f.type,.bool f.has,.int .i64 k,.int .i64 i,.string t,.slice B m d,.slice B' g b]
