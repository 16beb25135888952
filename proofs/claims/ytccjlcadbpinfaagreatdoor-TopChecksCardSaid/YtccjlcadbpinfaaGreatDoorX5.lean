import Derived.Test.YtccjlcadbpinfaaGreatDoorX4
import Derived.RangeFuncBox
import Derived.RangeFuncNested
import Derived.RangeFuncBound
import Derived.RangeFuncCalls
import Derived.RangeFuncLeaves
import Derived.Shelf.Abstract
import Derived.Shelf.RegionOpen
import Derived.OwnWalkIn
import Derived.TacticsInMore
import Derived.LoopNIn
import Derived.LoopIn
import Derived.Sort.OwnSorted
import Derived.Lib.AppendStr
import Derived.Lib.Builder
import Derived.Lib.BufferMore
set_option linter.all false
set_option maxRecDepth 100000
set_option maxHeartbeats 16000000
namespace Go.Proofs.YtccjlcadbpinfaaGreatDoor.Tp
open Go.RowKit Go.Shelf
open Num Mem Can
attribute [local go_sem] Oper.semAt_some
def AM(f:Nat->afs)(k:Nat):List afs:=(List.range k).map f
def Io(f:Nat->afs)(k:Nat):AM f (k+1)=AM f k++[f k]:=by simp[AM,List.range_succ]
def Lm(f:Nat->afs)(k:Nat):(AM f k).length=k:=by simp[AM]
def SJ(zs:List afs):AM (fun j=>zs[j]?.getD []) zs.length=zs:=by
 apply wH;·simp[AM]
 ·intro i e d;simp[AM,d]
def Px(zs:List afs){k:Nat}(e:k<=zs.length):AM (fun j=>zs[j]?.getD []) k=zs.take k:=by
 apply wH;·simp[AM,e]
 ·intro i d g;have:i<zs.length:=by simp[AM]at d;omega
  simp[AM,this]
def Py(F:Fence)(n:Nat)(C:F.fn 229)(M:F.round=none)(Y:1<=n)(l m g b off len cap:Nat)(zs:List afs)(Z:len*16<=140737488351232)(hb:b<g)(J o:List afs->World->Prop)(H:∀pre x W,J pre W->pre.length<len->YieldAt F (n-1) Tryz.prog l #[.string ⟨x.toArray⟩] W fun e d=>(e=.returned (.bool true)/\J (pre++[x]) d/\Below g W d)\/(e=.returned (.bool false)/\o (pre++[x]) d))(W:World)(T:W.cell? (rN m 0)=some (.slice (some ⟨b,off,none⟩) len cap))(I:∀j,j<len->W.cell? (rN b (off+j))=some (.string ⟨(zs[j]?.getD []).toArray⟩))(z:J [] W):CallsIn F n Tryz.prog 229 #[.func (.yield l) #[] #[],sg m] W fun e d=>(∃v,e=.returned v)/\((∃y,y=AM (fun j=>zs[j]?.getD []) len/\J y d)\/(∃pre,(∃k,k<=len/\pre=AM (fun j=>zs[j]?.getD []) k)/\o pre d)):=by
 refine callsIn_of_wp Tryz.func229 rfl C ?_ M;simp only[Tryz.ntmps229,QT,rP,sl,Nat.reduceAdd,Nat.reduceSub,JQ,JR,QR,LJ,so,si];gi_wp2;gi_loopw [7] (fun i wr=>∃k:Nat,k<=len/\i=.int .i64 k/\J (AM (fun j=>zs[j]?.getD []) k) wr/\Below g W wr) (fun i _=>len-(intOf i).toNat);case atStart=>exact⟨0,sb _,rfl,z,Below.refl _ _⟩
 case
  round=>
   obtain⟨k,X,rfl,q,t⟩:=hrel;have K:k<len->wr.cell? (rN b (off+k))=some (.string ⟨(zs[k]?.getD []).toArray⟩):=fun h=>(t.cell (p:=rN b (off+k)) hb).trans (I k h)
   by_cases r:k<len
   ·obtain⟨S,a1,O,R,a0,G⟩:=H _ (zs[k]?.getD []) wr q (by rw[Lm];exact r);have U:=K r;gi_wp2;refine G.mono ?_;rintro e N (⟨rfl,D,L⟩|⟨rfl,E⟩)
    ·gi_wp2;go_roundw;case rel=>exact⟨k+1,V,bA,by rw[Io];exact D,t.trans L⟩
     case measure=>simp[intOf];omega
    ·gi_wp2;refine sc (tR rfl _ _ _) rfl ?_;exact⟨⟨_,rfl⟩,.inr ⟨_,⟨k+1,V,(Io _ _).symm⟩,E⟩⟩
   ·obtain rfl:k=len:=V;gi_wp2;go_end0;exact⟨⟨_,rfl⟩,.inl ⟨_,rfl,q⟩⟩
def Iq(F:Fence)(n:Nat)(j:F.fn 229)(m:F.round=none)(l d:Nat)(A:aft)(c:Nat)(J:List afs->World->Prop)(W:World)(o:W.cell? (rN d 0)=some (.slice A 0 c))(h:J [] W):CallsIn F n Tryz.prog 229 #[.func (.yield l) #[] #[],sg d] W fun e g=>(∃v,e=.returned v)/\J [] g:=by
 refine callsIn_of_wp Tryz.func229 rfl j ?_ m;simp only[Tryz.ntmps229,QT,rP,sl,Nat.reduceAdd,Nat.reduceSub,JQ,JR,QR,LJ,so,si];gi_wp2;gi_loopw [7] (fun i wr=>i=.int .i64 0/\J [] wr) (fun _ _=>0);case atStart=>exact⟨rfl,h⟩
 case round=>obtain⟨rfl,k⟩:=hrel;gi_wp2;go_end0;exact⟨⟨_,rfl⟩,k⟩
def Ln(F:Fence)(n:Nat)(t:F.fn 229)(G:F.round=none)(T:1<=n)(g o:Nat)(A:aft)(m c:Nat)(zs:List afs)(X:afu)(a0:m<=100000000)(w:World)(N:g<w.heap.size)(U:o<=w.heap.size)(O:w.cell? (rN g 0)=some (.slice A m c))(hr:Row w X 1 A m (uL zs))(y:∀b,X b->b<o):SeqStopsK F n Tryz.prog 229 #[sg g] (fun x:afs=> #[Value.string ⟨x.toArray⟩]) (Below o) (fun H=>H=zs) (fun pre=>pre<+:zs) zs.length w:=fun l J I W v _ _ z r=>
 by
  have C:=v.cl O N;have q:zs.length=m:=nH;by_cases L:m=0;·subst L;have Y:zs=[]:=rT q;subst Y;exact(Iq F n t G l g A c J W C r).mono fun e K ⟨i,d⟩=>⟨i,.inl ⟨_,rfl,d⟩⟩
  ·obtain⟨b,off,M,D,R⟩:=hr.pos V;subst M;have S:∀j,j<m->W.cell? (rN b (off+j))=some (.string ⟨(zs[j]?.getD []).toArray⟩):=fun j d=>by have E:j<zs.length:=V;have:=(R j [sv zs[j]] (by simp[uL,E])).2 0 (sv zs[j]) rfl;rw[tL,sE]at this;rw[(v.mono U).cell (p:=rN b (off+j)) (y b D),this];simp[sv,E]
   refine(Py F n t G T l g o b off m c zs V (y b D) J I (by rw[q]at z;exact z) W C S r).mono ?_;rintro e K ⟨i,⟨H,rfl,d⟩|⟨pre,⟨k,Z,rfl⟩,d⟩⟩;·exact⟨i,.inl ⟨_,by rw[<-q];exact SJ zs,d⟩⟩
   ·exact⟨i,.inr ⟨_,by rw[Px zs V];exact List.take_prefix _ _,d⟩⟩
def Kf(F:Fence)(n:Nat)(N:F.fn 242)(C:F.fn 229)(t:F.round=none)(af:3<=n)(d:Nat)(A:aft)(m c:Nat)(zs:List afs)(X:afu)(Y:m<=100000000)(w:World)(O:d<w.heap.size)(r:w.cell? (rN d 0)=some (.slice A m c))(hr:Row w X 1 A m (uL zs))(D:∀b,X b->b<w.heap.size):CallsIn F n Tryz.prog 242 #[.slice none 0 0,.func (.func 229) #[] #[sg d]] w fun e z=>∃v,e=.returned v/\z.ownsRow w.heap.size 9 1 v zs.length (zs.map sv)/\(v=.slice none 0 0↔zs=[])/\afv w z:=by
 have M:1<=n:=V;have ab:zs.length=m:=nH;obtain⟨a6,T,a3,a4,a5⟩:=xG yQ;refine callsIn_of_wp_marks Tryz.func242 rfl N ?_ t;simp only[Tryz.ntmps242,QT,rP,sl,Nat.reduceAdd,Nat.reduceSub,JQ,JR,QR,LJ,so,si];gi_wp2;have L:=Boxed.new w 25 (.slice none 0 0);have o:afv w (w.alloc (.cells #[.slice none 0 0] 25)):=(Below.refl _ w).alloc rV _;refine wpIn_rangeFunc_ownG t M (gf:=229) (lb:= #[sg d]) rfl C (enters_of Tryz.func229 bm rfl) (Ln F (n-1) C t V d w.heap.size A m c zs X Y _ (by simp;omega) bA ((o.cell (p:=rN d 0) O).trans r) (hr.keep (fun q Z=>o.cell (D _ Z)) ug) D) belowK_t (belowK_b bA) xn (fun _=>rfl) (fun pre W=>(∃v,Boxed W w.heap.size 25 v/\W.ownsRow w.heap.size 9 1 v pre.length (pre.map sv)/\(v=.slice none 0 0↔pre=[]))/\afv w W) (fun _ _ _=>False) (OwnFrom.and (Own.from (holdsRow_own w.heap.size w.heap.size 25 9 1 (fun pre=>pre.length) (fun pre=>pre.map sv) (fun pre v=>v=.slice none 0 0↔pre=[])) _) (ownFrom_below rV bA)) (fun _ _ _ _ _ a1 _ _=>a1) ⟨⟨_,L,uH _ _ _ _,bA⟩,o⟩ (fun x=>{tmps:= #[.slice none 0 0,.func (.func 229) #[] #[sg d],sg w.heap.size,undef,.slice none 0 0,.string ⟨x.toArray⟩,.func (.func 229) #[] #[sg d],.string ⟨x.toArray⟩,undef,undef,undef,undef,undef],defers:=[]}) ?assign ?body ?done ?stop;case assign=>intro l x W K i;gi_wp2;exact i
 case body=>rintro l pre x W ⟨⟨v,k,j,G⟩,g⟩ ad;have r:=k.cell;gi_wp2_with (gi_at_builtin;refine wpListIn_append_own _ rfl _ _ 25 rfl w.heap.size 9 a6 (.string ⟨#[]⟩) 1 16 ub T a3 a4 a5 rfl bH _ _ _ rfl (j.alloc _) ⟨W.heap.size,0,none⟩ 1 1 [.string ⟨x.toArray⟩] rfl rfl (cell_one_new _ _ _) dq dD V (by have:=g.size;simp;omega) ?_;intro an w1 H S _;obtain⟨a8,a7,rfl⟩:=ownsRow_succ H;obtain⟨I,a2,a0,U,E⟩:=k.appended bH j g.size rV H S;have a9:=I.cell;have aa:=I.frozen);exact⟨U.from _,E,⟨_,a2,by rw[rL,yD];have h:=a0;simp only[IH,xB,List.map_nil]at h|-;exact h,bA⟩,g.trans E⟩
 case done=>rintro y ar W R rfl ⟨⟨v,k,j,G⟩,g⟩ i;have r:=k.cell;gi_wp2;refine⟨bA,.inl ⟨_,_,rfl,run_takeDeferred i,?_⟩⟩;exact⟨_,results_tmp rfl _ _ _,v,rfl,ownsRow_putObj j _ i rfl,G,g.trans (belowK_b (w:=w) rV W y _ _ (by simp at R;omega) i rfl rfl)⟩
 case stop=>rintro y c pre W _ _ h _;exact h.elim
def ID(d:Nat)(A:aft)(m c:Nat)(zs:List afs)(X:afu)(l:m<=100000000)(w:World)(i:d<w.heap.size)(k:w.cell? (rN d 0)=some (.slice A m c))(o:Row w X 1 A m (uL zs))(j:∀b,X b->b<w.heap.size):Calls Tryz.prog 242 #[.slice none 0 0,.func (.func 229) #[] #[sg d]] w fun e g=>∃v,e=.returned v/\g.ownsRow w.heap.size 9 1 v zs.length (zs.map sv)/\(v=.slice none 0 0↔zs=[])/\afv w g:=(callsIn_wide (n:=3)).1 (Kf Fence.wide 3 trivial trivial rfl V d A m c zs X l w i k o j)
def LC(d:Nat)(A:aft)(m c:Nat)(zs:List afs)(X:afu)(r:m<=100000000)(w:World)(l:d<w.heap.size)(q:w.cell? (rN d 0)=some (.slice A m c))(t:Row w X 1 A m (uL zs))(o:∀b,X b->b<w.heap.size):Calls Tryz.prog 227 #[.func (.func 229) #[] #[sg d]] w fun e g=>∃v,e=.returned v/\g.ownsRow w.heap.size 9 1 v zs.length (zs.map sv)/\(v=.slice none 0 0↔zs=[])/\afv w g:=by have h:=ID d A m c zs X r w l q t o;go_enter Tryz.func227,Tryz.ntmps227;go_wp2_with fail;refine h.mono ?_;rintro e' y ⟨v,rfl,i,j,k⟩;go_wp2_with fail;go_ret;exact⟨v,rfl,i,j,k⟩
open Go.Sort in
def yA(zs:List afs):List afs:=zs.mergeSort fun x y=>decide (x<=y)
def Uj(l:List afs):l.map encStr=l.map sv:=rfl
def NK(d:Nat)(A:aft)(m c:Nat)(zs:List afs)(X:afu)(F:m<=100000000)(w:World)(t:d<w.heap.size)(C:w.cell? (rN d 0)=some (.slice A m c))(o:Row w X 1 A m (uL zs))(z:∀b,X b->b<w.heap.size):Calls Tryz.prog 199 #[.func (.func 229) #[] #[sg d]] w fun e k=>∃v,e=.returned v/\k.ownsRow w.heap.size 9 1 v zs.length ((yA zs).map sv)/\(v=.slice none 0 0↔zs=[])/\afv w k:=by
 have Y:zs.length<=100000000:=by
  have:=o.len;have U:(uL zs).length=zs.length:=by simp[uL]
  omega
 have h:=LC d A m c zs X F w t C o z;go_enter Tryz.func199,Tryz.ntmps199;go_wp2_with fail;refine h.mono ?_;rintro e' W ⟨v,rfl,q,G,hb⟩;rcases q.2 with⟨rfl,L⟩|⟨g,cap,T,rfl,l,i,N,O,R,S⟩;·have I:zs=[]:=rT L;subst I;go_wp2_with fail;refine tZ (Tryz.slices_Sort_string_none none 0 W) ?_;go_wp2_with fail;go_ret;exact⟨.slice none 0 0,rfl,by rw[show yA []=[]by simp[yA]];exact q,bA,hb⟩
 ·have y:Go.Sort.Holds encStr W g 0 zs.toArray:=holds_of_block i (by rw[Uj];simpa using S);have D:g<W.heap.size:=(vm.1 i).1;have K:zs.length<4611686018427387904:=V;have r:=Tryz.slices_Sort_string g 0 cap zs W y D K;go_wp2_with fail;refine r.mono ?_;rintro e' w' ⟨rfl,M,os,rfl⟩;go_wp2_with fail;go_ret;have H:=ownsRow_sorted (ts:=yA zs) (ss:=zs) (by simp[yA]) l i N O R (os:=os) (n:=M);exact⟨_,rfl,H,G,hb.grown (grownBy_sorted _) hb.size (fun j E=>by cases E;exact l)⟩
end Go.Proofs.YtccjlcadbpinfaaGreatDoor.Tp
namespace Go.Proofs.YtccjlcadbpinfaaGreatDoor.Tp
open ChangeShapes WideShapes ChangeAt RowKit
open Num Mem Can
def Ev(w:World)(X:afu)(k i:Int)(t:afs):uq w X (jv k i ⟨t.toArray⟩ none 0 0 none 0 0) (.mk k i t [] []):=.mk (Row.nil _ _ 5 none) rfl (fun i h=>absurd h bA) (Row.nil _ _ 1 none) rV rV V V
def Tn(xs:afs)(g:Nat)(A:aft)(n c B f:Nat):Prop:=∀(wd:Wd)(d a:Nat)(w:World)(R:Except Int (J×Nat)),FR xs f a d=some R->CD w g A n c a 0 wd->g<w.heap.size->Rd w B A n xs->a<=n->d<=32->Calls Tryz.prog 105 #[sg g,.int .i64 (d:Int)] w (Eb xs g A n c R w)
def YK(xs:afs)(g:Nat)(A:aft)(n c B f:Nat):Prop:=∀(wd:Wd)(d a:Nat)(w:World)(R:Except Int (J×Nat)),MK xs f a d=some R->CD w g A n c a 0 wd->g<w.heap.size->Rd w B A n xs->a<=n->d<=32->Calls Tryz.prog 104 #[sg g,.int .i64 (d:Int)] w (Eb xs g A n c R w)
def Yv(g:Nat)(A:aft)(n c B f depth:Nat)(xs:afs)(wd:Wd)(w:World)(R:Except Int (J×Nat))(y:Tn xs g A n c B f)(z:YK xs g A n c B f)(G:wU xs (f+1) wd depth=some R)(D:CD w g A n c wd.next 0 wd)(hg:g<w.heap.size)(hr:Rd w B A n xs)(H:B<=g)(C:wd.next<=n)(I:depth<=32):Calls Tryz.prog 51 #[sg g,.int .i64 wd.kind,.int .i64 (depth:Int)] w (Eb xs g A n c R w):=by
 have K:=hr.len;have HX:=rz D;have E:=rz y;have F:=rz z;have uo:=G;unfold wU at uo;clear y z;obtain⟨⟨U,W,X,d,Y,Z,a0,a1⟩,a2⟩:=D;by_cases r:wd.kind=8
 ·rw[rG r]at uo;injection uo with uo;subst uo;rw[r]at d|-;go_enter AN,zI;go_wp2_with fail;refine sc (uX (k:=1) (i:=0) (t:=⟨([]:afs).toArray⟩) (A:=none) (n:=0) (c:=0) (A':=none) (n':=0) (c':=0) rfl rfl ⟨bi,bi,bi,bi,bi⟩) rfl ?_;refine⟨1,0,⟨([]:afs).toArray⟩,none,0,0,none,0,0,rfl,Ev _ _ _ _ _,⟨wd.next,wd,HX.out.below ?_ hg,fun j a' h=> ?_,fR⟩,sa.of ?_⟩;·exact lX
  ·exact mK
  ·exact lX
 rw[rB r]at uo;have S:(wd.kind==8)=false:=rA.2 r;by_cases o:wd.kind=7
 ·rw[rG o]at uo;injection uo with uo;subst uo;rw[o]at d|-;go_enter AN,zI;go_wp2_with fail;refine sc (uX (k:=2) (i:=wd.int) (t:=⟨([]:afs).toArray⟩) (A:=none) (n:=0) (c:=0) (A':=none) (n':=0) (c':=0) rfl rfl ⟨bi,bi,bi,bi,bi⟩) rfl ?_;refine⟨2,wd.int,⟨([]:afs).toArray⟩,none,0,0,none,0,0,rfl,Ev _ _ _ _ _,⟨wd.next,wd,HX.out.below ?_ hg,fun j a' h=> ?_,fR⟩,sa.of ?_⟩;·exact lX
  ·exact mK
  ·exact lX
 rw[rB o]at uo;have O:(wd.kind==7)=false:=rA.2 o;by_cases v:wd.kind=9
 ·rw[rG v]at uo;injection uo with uo;subst uo;rw[v]at d|-;go_enter AN,zI;go_wp2_with fail;refine sc (uX (k:=3) (i:=wd.int) (t:=⟨([]:afs).toArray⟩) (A:=none) (n:=0) (c:=0) (A':=none) (n':=0) (c':=0) rfl rfl ⟨bi,bi,bi,bi,bi⟩) rfl ?_;refine⟨3,wd.int,⟨([]:afs).toArray⟩,none,0,0,none,0,0,rfl,Ev _ _ _ _ _,⟨wd.next,wd,HX.out.below ?_ hg,fun j a' h=> ?_,fR⟩,sa.of ?_⟩;·exact lX
  ·exact mK
  ·exact lX
 rw[rB v]at uo;have T:(wd.kind==9)=false:=rA.2 v;by_cases l:wd.kind=10
 ·rw[rG l]at uo;injection uo with uo;subst uo;rw[l]at d|-;go_enter AN,zI;go_wp2_with fail;refine sc (uX (k:=4) (i:=0) (t:=⟨wd.text.toArray⟩) (A:=none) (n:=0) (c:=0) (A':=none) (n':=0) (c':=0) rfl rfl ⟨bi,bi,bi,bi,bi⟩) rfl ?_;refine⟨4,0,⟨wd.text.toArray⟩,none,0,0,none,0,0,rfl,Ev _ _ _ _ _,⟨wd.next,wd,HX.out.below ?_ hg,fun j a' h=> ?_,fR⟩,sa.of ?_⟩;·exact lX
  ·exact mK
  ·exact lX
 rw[rB l]at uo;have M:(wd.kind==10)=false:=rA.2 l;by_cases m:wd.kind=3
 ·rw[rG m]at uo;rw[m]at d|-;by_cases h32:depth=32;·exact pq
  ·rw[rB h32]at uo;have abL:((depth:Int)==32)=false:=rA.2 V;go_enter AN,zI;go_upto_region 1 with fail;have sK:=(afw w).al rV (jZ);have GM:=HX.out.below sK hg;have JR1:=vW.new w 0 0 ⟨#[]⟩ none 0 0 none 0 0 w.heap.size rfl;have hr1:=hr.sV sK V;have hs1:=sK.l1;have SY:sa g w.heap.size w (w.alloc (jZ)):=sa.of sK;generalize w.alloc _=w1 at*;have hcl:=E.out wd (depth+1) wd.next w1 R uo GM V hr1 C V;exact lZ
 rw[rB m]at uo;have N:(wd.kind==3)=false:=rA.2 m;by_cases h1:wd.kind=1
 ·rw[rG h1]at uo;rw[h1]at d|-;by_cases h32:depth=32;·exact pq
  ·rw[rB h32]at uo;have abL:((depth:Int)==32)=false:=rA.2 V;go_enter AN,zI;go_upto_region 1 with fail;have sK:=(afw w).al rV (jZ);have GM:=HX.out.below sK hg;have JR1:=vW.new w 0 0 ⟨#[]⟩ none 0 0 none 0 0 w.heap.size rfl;have hr1:=hr.sV sK V;have hs1:=sK.l1;have SY:sa g w.heap.size w (w.alloc (jZ)):=sa.of sK;generalize w.alloc _=w1 at*;have hcl:=F.out wd (depth+1) wd.next w1 R uo GM V hr1 C V;exact lZ
 rw[rB h1]at uo;have L:(wd.kind==1)=false:=rA.2 h1;injection uo with uo;subst uo;go_enter AN,zI;go_upto_region 1 with fail;have sK:=(afw w).al rV (jZ);have GM:=HX.out.below sK hg;have JR1:=vW.new w 0 0 ⟨#[]⟩ none 0 0 none 0 0 w.heap.size rfl;have hr1:=hr.sV sK V;have hs1:=sK.l1;have SY:sa g w.heap.size w (w.alloc (jZ)):=sa.of sK;generalize w.alloc _=w1 at*;go_wp2_with fail;refine sG (vX g A n c wd.next 0 20 wd w1 GM) fun w2 ⟨h2,YR⟩=> ?_
 exact lQ
def yX(t:afs):Bool:=(Ut.xk t).isSome
def Aa:J->Bool
 | .mk k i t l _=>if k=1 then decide (i=0)&&decide (t=[])&&decide (l.length=0)else if k=2 then(decide (i=0)||decide (i=1))&&decide (t=[])&&decide (l.length=0)else if k=3 then decide (t=[])&&decide (l.length=0)else if k=4 then decide (i=0)&&decide (l.length=0)&&yX t else if k=5\/k=6 then decide (i=0)&&decide (t=[])else false
def TO(k i:Int)(text:afs)(items:List J)(keys:List afs)(ad:text.length<=100000000)(w:World)(A:aft)(n c:Nat)(A':aft)(n' c':Nat)(a2:items.length=n):Calls Tryz.prog 154 #[jA k i ⟨text.toArray⟩ A n c A' n' c'] w (vh w (.bool (Aa (.mk k i text items keys)))):=by
 obtain⟨R,v⟩:=sW (Aa (.mk k i text items keys));rw[<-v];unfold Aa at v;simp only[a2]at v;have e:=rz v;clear v;have E:=(afw w).al rV (jC k i ⟨text.toArray⟩ A n c A' n' c');have I:=vW.new w k i ⟨text.toArray⟩ A n c A' n' c' w.heap.size rfl;have a9:=E.l1;go_enter Tryz.func154,Tryz.ntmps154;go_upto_region 1 with fail;generalize w.alloc _=w1 at*;refine sT [0,1,2,3,4,5,6,7,8,9,10,11,12] [] bm bm bA bm bt (fun wd F tj=> ?_);have S:=I.below F V;have Bv:=E.sY V F;have ab:w.heap.size<wd.heap.size:=V;clear F tj I E;obtain⟨⟨a5,T,U,K,W⟩,X⟩:=S;repeat((first|(refine tm rfl rfl rfl bo ?_)|(refine tB rfl rfl rfl ?_)|(refine tH rfl rfl rfl (wd.heap.size) V _ (by intro w' hb;have az:=(hb.cell (p:=rN w.heap.size 1) bl).trans T;have aU:=(hb.cell (p:=rN w.heap.size 2) bl).trans U;have b0:=(hb.cell (p:=rN w.heap.size 3) bl).trans K;clear hb;go_simp;first|done|with_reducible rfl) ?_));simp only[Act.put,rH,rC,rF])
 refine sQ ?_;have M:(i !=0)= !decide (i=0):=by by_cases h:i=0<;>simp[h]
 have N:(!text.isEmpty)= !decide (text=[]):=by cases text<;>simp
 have L:decide (0<n)= !decide (n=0):=by by_cases h:n=0<;>simp[h];omega
 rw[M,N,L];clear M N L;clear K W X;by_cases g:k=1;·have h:=e.out;simp only[g,rG]at h;have HH:=rz h;subst g;clear h e;exact dO
 have y:(k==1)=false:=rA.2 g;by_cases j:k=2
 ·have h:=e.out;rw[rB g,rG j]at h;have HH:=rz h;subst j;clear h e g y;by_cases C:i=0;·have h:=HH.out;simp only[C,wF,zA,sk]at h;subst C;clear HH;have HH:=rz h;clear h;simp only[wF];generalize decide (text=[])=TB at*;exact eZ
  ·have af:(i==0)=false:=rA.2 C;by_cases D:i=1;·have h:=HH.out;simp only[D,wF,QI,sk]at h;subst D;clear HH;have HH:=rz h;clear h;generalize decide (text=[])=TB at*;exact eZ
   ·have y:(i==1)=false:=rA.2 D;have h:=HH.out;simp[C,D]at h;subst h;clear HH;exact bD
 have G:(k==2)=false:=rA.2 j;by_cases l:k=3;·have h:=e.out;rw[rB g,rB j,rG l]at h;have HH:=rz h;subst l;clear h e g y j G;exact dO
 have O:(k==3)=false:=rA.2 l;by_cases q:k=4
 ·have h:=e.out;rw[rB g,rB j,rB l,rG q]at h;have HH:=rz h;subst q;clear h e g y j G l O;have z:=fun(r:Nat)(o:World) Y=>Ut.JF (some ⟨wd.heap.size,0,none⟩) text.length r (wd.heap.size+1) text o Y V
  generalize Z:decide (i=0)=NB at*;generalize a0:decide (n=0)=IB at*;cases NB;·have h:=HH.out;simp at h;subst h;clear HH z;exact bD
  ·cases IB;·have h:=HH.out;simp at h;subst h;clear HH z;exact bD
   ·have h:=HH.out;simp only[sk]at h;clear HH;have H:∀r o,Rd o (wd.heap.size+1) (some ⟨wd.heap.size,0,none⟩) text.length text->Calls Tryz.prog 81 #[.slice (some ⟨wd.heap.size,0,none⟩) text.length r] o (zW o (.bool R)):=by rw[h];exact z
    clear z h Z a0;go_wp2_with(refine Ao (t:=text) rfl rfl ?_;intro r o a8 a3 a1 aa);refine tZ (H r o a3) ?_;clear H;have ze:=Bv.sY (sn V rV) a1;exact jW
 have a4:(k==4)=false:=rA.2 q;by_cases m:k=5\/k=6;·have h:=e.out;rw[rB g,rB j,rB l,rB q,rG m]at h;have HH:=rz h;rcases m with rfl|rfl;all_goals clear h e g y j G l O q a4;generalize decide (i=0)=NB at*;generalize decide (text=[])=TB at*;generalize decide (n=0)=IB at*;cases NB<;>cases TB<;>cases IB;all_goals have h:=HH.out;simp at h;subst h;clear HH;go_wp2_with fail;go_ret;exact⟨rfl,Bv⟩
 ·have h:=e.out;rw[rB g,rB j,rB l,rB q,rB m]at h;have an:(k==5)=false:=rA.2 (fun h=>m (.inl h));have ar:(k==6)=false:=rA.2 (fun h=>m (.inr h));have a6:¬k=5:=fun h=>m (.inl h)
  have a7:¬k=6:=fun h=>m (.inr h)
  subst h;clear m e;exact bD
def xa{d:Type}(p:d->Bool):List d->Int
 | []=> -1
 |x::r=>if p x=true then 0 else if xa p r<0 then-1 else xa p r+1
def Es{e:Type}(p:e->Bool)(l:List e):decide (0<=xa p l)=l.any p:=by
 induction l with
 |nil=>simp[xa]
 |cons x r g=>
  rw[List.any_cons,<-g,Aj];simp only[sd,CL];rw[show xa p (x::r)=if p x=true then 0 else if xa p r<0 then-1 else xa p r+1 from rfl];by_cases h:p x=true;·simp[h]
  ·by_cases d:xa p r<0;·simp[h,d]
   ·simp[h,d];omega
def Fh{d:Type}(p:d->Bool)(j:Nat)(l:List d):Int:=if xa p l<0 then-1 else(j:Int)+xa p l
def Mr{d:Type}{p:d->Bool}{j:Nat}{x:d}{r:List d}(h:p x=true):Fh p j (x::r)=j:=by simp[Fh,xa,h]
def Jr{d:Type}{p:d->Bool}{j:Nat}{x:d}{r:List d}(h:p x=false):Fh p j (x::r)=Fh p (j+1) r:=by
 unfold Fh;simp only[xa,h];by_cases e:xa p r<0;·simp[e]
 ·have:¬xa p r+1<0:=V;simp[e,this];omega
def Am{d:Type}(p:d->Bool)(l:List d):Fh p 0 l=xa p l:=by
 have e:∀l:List d, -1<=xa p l:=by
  intro l;induction l with
  |nil=>simp[xa]
  |cons x r g=>simp only[xa];split;omega;split<;>omega
 have:=e l;unfold Fh;split<;>omega
def NF(f:Nat)(E:∀args w,(callFunc f args).run Tryz.prog w=.ok (.enter f args) w)(lb:Array Value)(p:afs->Bool)(ks:List afs)(w:World)(X:afu)(A:aft)(n c:Nat)(hr:Row w X 1 A n (uL ks))(y:∀b,X b->b<w.heap.size)(G:n<=100000000)(v:∀x∈ks,∀w',afv w w'->Calls Tryz.prog f (#[.string ⟨x.toArray⟩]++lb) w' (vh w' (.bool (p x)))):Calls Tryz.prog 183 #[.slice A n c,.func (.func f) #[] lb] w (vh w (.int .i64 (xa p ks))):=by
 have r:ks.length=n:=nH;obtain⟨R,e⟩:=sW (xa p ks);rw[<-e];have l:=rz (e.trans (Am p ks).symm);have HL:=rz r;clear e r;go_enter Tryz.func183,Tryz.ntmps183;go_wp2_with fail;go_loopw [8] (fun k wr=>∃j:Nat,k=.int .i64 j/\j<=n/\R=Fh p j (ks.drop j)/\afv w wr) (fun k _=>n-(intOf k).toNat);case atStart=>exact⟨0,rfl,sb _,l.out,Below.refl _ _⟩
 case
  round=>
   obtain⟨j,rfl,F,hk,wI⟩:=hrel;have HK:=rz hk;clear hk l;by_cases Dx:j<n
   ·have d:j<ks.length:=dv;have Rw:(j:Int)<(n:Int):=V;have o:=rM d;have ZJ:=v ks[j] (sj d) wr wI;obtain⟨g,q,t,D,m⟩:=hr.pos V;have i:=(m j [sv ks[j]] (by simp[uL,d])).2 0 (sv ks[j]) rfl;rw[tL,sE]at i;have C:=wI.cl i (y g D);generalize ks[j]=x at*;have HD:=rz (o▸HK.out);subst t;unfold sv at C;clear o i m HK d;go_wp2_with fail;refine sG ZJ fun H z=> ?_
    have Ac:=wI.sY (sn wI.size rV|>fun h=>V) z;exact pE
   ·exact mz
def Be(f:Nat)(d:∀args w,(callFunc f args).run Tryz.prog w=.ok (.enter f args) w)(lb:Array Value)(p:afs->Bool)(ks:List afs)(w:World)(X:afu)(A:aft)(n c:Nat)(j:Row w X 1 A n (uL ks))(g:∀b,X b->b<w.heap.size)(i:n<=100000000)(e:∀x∈ks,∀w',afv w w'->Calls Tryz.prog f (#[.string ⟨x.toArray⟩]++lb) w' (vh w' (.bool (p x)))):Calls Tryz.prog 141 #[.slice A n c,.func (.func f) #[] lb] w (vh w (.bool (ks.any p))):=by have h:=NF f d lb p ks w X A n c j g i e;rw[<-Es];generalize xa p ks=k at*;go_enter Tryz.func141,Tryz.ntmps141;exact dF
def Ls(x:afs)(o:x.length<=100000000)(w:World):Calls Tryz.prog 201 #[.string ⟨x.toArray⟩] w (vh w (.bool (!yX x))):=by
 have g:=fun(d:Nat)(e:World) i=>Ut.JF (some ⟨w.heap.size,0,none⟩) x.length d (w.heap.size+1) x e i V
 unfold yX;generalize(Ut.xk x).isSome=R at*;go_enter Tryz.func201,Tryz.ntmps201;go_wp2_with(refine Ao (t:=x) rfl rfl ?_;intro d e l k j m);refine tZ (g d e k) ?_;clear g;go_wp2_with fail;go_ret;exact⟨rfl,j⟩
def PF(A:aft)(n c g:Nat)(xs s:afs)(w:World)(a5:Mem.Own w g A n c xs)(b6:n<=1000000000)(b7:s.length<=100000000)(hb:g<=w.heap.size):Calls Tryz.prog 120 #[.slice A n c,.string ⟨s.toArray⟩] w fun e w'=>∃(F:aft)(m c2:Nat),e=.returned (.slice F m c2)/\Mem.Own w' g F m c2 (xs++sB s)/\Below g w w'/\Bu A w F w':=by
 go_enter Tryz.func120,Tryz.ntmps120;have i:=(Below.refl g w).al hb (.cells #[.int .u8 34] 5);have L:=rd_val w 34 34 rfl;go_upto_region 2 with(at_builtin;go_must(refine vl rfl rfl (a5.alloc _) rfl L V (by simp;omega) ?_);intro aa c1 w1 R U a0);have O:=i.trans U;have a1:=(Bu.al A w (.cells #[.int .u8 34] 5)).trans a0;have a8:g<=w1.heap.size:=by have:=O.size;omega
 clear i L U a5 a0;go_wp2_with fail;go_loopw [0,13] (fun s0 T wr=>∃(j:Nat)(F:aft)(m c2:Nat),T=.int .i64 j/\j<=s.length/\s0=.slice F m c2/\Mem.Own wr g F m c2 (xs++34::(s.take j).flatMap CJ)/\Below g w wr/\g<=wr.heap.size/\Bu A w F wr) (fun _ T _=>s.length-(intOf T).toNat);case atStart=>exact⟨0,aa,n+1,c1,rfl,sb _,rfl,by simpa using R,O,a8,a1⟩
 case
  round=>
   obtain⟨j,F,m,c2,rfl,b2,rfl,v,z,D,C⟩:=hrel;have a4:=v.len;rw[rL,rP]at a4;have Z:=Hp (s.take j);rw[zC]at Z;have a9:=R.len;simp only[rL,rP,sl]at a9;have b5:m<=10000000000:=V;clear a4 Z a9 R O a8 a1;by_cases a3:j<s.length
   ·have b3:(j:Int)<s.length:=V;have b1:=Ki s j (by simpa[ByteArray.size]using a3);have X:xs++34::(s.take (j+1)).flatMap CJ=(xs++34::(s.take j).flatMap CJ)++CJ s[j]:=by rw[zc,rD a3,xO];simp
    have ad:=MN s[j];generalize s[j]=c at*;have N:=fun w=>Tryz.strings_IndexByte ⟨tW.toArray⟩ (c.toNat:Int) w
    have Y:(((c.toNat:Nat):Int)).toNat.toUInt8=c:=bA;simp only[Y]at N;have q:∀w,Calls Tryz.prog 152 #[.string ⟨#[34,92,47,8,12,10,13,9]⟩,.int .u8 (c.toNat:Int)] w (zW w (.int .i64 (Lib.indexByte tW c))):=fun w=>(N w).mono fun _ _ h=>⟨h.1,h.2.symm⟩
    clear N Y;have b4:=c.toNat_lt;have E:=rz X;clear X;generalize Lib.indexByte tW c=aU at*;rcases ad with⟨k,rfl,K,an,hq⟩|⟨rfl,M,hq⟩|⟨rfl,M,hq⟩|⟨rfl,K,hq⟩
    ·have b9:((c.toNat:Int)==47)=false:=rA.2 (fun h=>K (tU.1 (by rw[show c.toNat=47 from V];rfl)));have y:=rz hq;clear hq K;rcases an with rfl|rfl|rfl|rfl|rfl|rfl|rfl;·have i:=(Below.refl g wr).al D (.cells #[.int .u8 92,.int .u8 34] 5);have r:Rd (wr.alloc (.cells #[.int .u8 92,.int .u8 34] 5)) (wr.heap.size+1) (some ⟨wr.heap.size,0,none⟩) 2 [92,34]:=AH wr [92,34];go_wp2_with fail;refine tZ (q _) ?_;clear q;go_wp2_with(at_builtin;go_must(refine vl rfl rfl (v.alloc _) rfl r V (by simp;omega) ?_);intro A3 c3 t Dy l o);have ze:=z.trans (i.trans l);have Ru:=(C.trans (Bu.al _ _ _)).trans o;have RE:g<=t.heap.size:=dE;rw[show [92,34]=CJ c from y.out.symm,<-E.out]at Dy;exact mA
     ·have i:=(Below.refl g wr).al D (.cells #[.int .u8 92,.int .u8 92] 5);have r:Rd (wr.alloc (.cells #[.int .u8 92,.int .u8 92] 5)) (wr.heap.size+1) (some ⟨wr.heap.size,0,none⟩) 2 [92,92]:=AH wr [92,92];go_wp2_with fail;refine tZ (q _) ?_;clear q;go_wp2_with(at_builtin;go_must(refine vl rfl rfl (v.alloc _) rfl r V (by simp;omega) ?_);intro A3 c3 t Dy l o);have ze:=z.trans (i.trans l);have Ru:=(C.trans (Bu.al _ _ _)).trans o;have RE:g<=t.heap.size:=dE;rw[show [92,92]=CJ c from y.out.symm,<-E.out]at Dy;exact mA
     ·have i:=(Below.refl g wr).al D (.cells #[.int .u8 92,.int .u8 98] 5);have r:Rd (wr.alloc (.cells #[.int .u8 92,.int .u8 98] 5)) (wr.heap.size+1) (some ⟨wr.heap.size,0,none⟩) 2 [92,98]:=AH wr [92,98];go_wp2_with fail;refine tZ (q _) ?_;clear q;go_wp2_with(at_builtin;go_must(refine vl rfl rfl (v.alloc _) rfl r V (by simp;omega) ?_);intro A3 c3 t Dy l o);have ze:=z.trans (i.trans l);have Ru:=(C.trans (Bu.al _ _ _)).trans o;have RE:g<=t.heap.size:=dE;rw[show [92,98]=CJ c from y.out.symm,<-E.out]at Dy;exact mA
     ·have i:=(Below.refl g wr).al D (.cells #[.int .u8 92,.int .u8 102] 5);have r:Rd (wr.alloc (.cells #[.int .u8 92,.int .u8 102] 5)) (wr.heap.size+1) (some ⟨wr.heap.size,0,none⟩) 2 [92,102]:=AH wr [92,102];go_wp2_with fail;refine tZ (q _) ?_;clear q;go_wp2_with(at_builtin;go_must(refine vl rfl rfl (v.alloc _) rfl r V (by simp;omega) ?_);intro A3 c3 t Dy l o);have ze:=z.trans (i.trans l);have Ru:=(C.trans (Bu.al _ _ _)).trans o;have RE:g<=t.heap.size:=dE;rw[show [92,102]=CJ c from y.out.symm,<-E.out]at Dy;exact mA
     ·have i:=(Below.refl g wr).al D (.cells #[.int .u8 92,.int .u8 110] 5);have r:Rd (wr.alloc (.cells #[.int .u8 92,.int .u8 110] 5)) (wr.heap.size+1) (some ⟨wr.heap.size,0,none⟩) 2 [92,110]:=AH wr [92,110];go_wp2_with fail;refine tZ (q _) ?_;clear q;go_wp2_with(at_builtin;go_must(refine vl rfl rfl (v.alloc _) rfl r V (by simp;omega) ?_);intro A3 c3 t Dy l o);have ze:=z.trans (i.trans l);have Ru:=(C.trans (Bu.al _ _ _)).trans o;have RE:g<=t.heap.size:=dE;rw[show [92,110]=CJ c from y.out.symm,<-E.out]at Dy;exact mA
     ·have i:=(Below.refl g wr).al D (.cells #[.int .u8 92,.int .u8 114] 5);have r:Rd (wr.alloc (.cells #[.int .u8 92,.int .u8 114] 5)) (wr.heap.size+1) (some ⟨wr.heap.size,0,none⟩) 2 [92,114]:=AH wr [92,114];go_wp2_with fail;refine tZ (q _) ?_;clear q;go_wp2_with(at_builtin;go_must(refine vl rfl rfl (v.alloc _) rfl r V (by simp;omega) ?_);intro A3 c3 t Dy l o);have ze:=z.trans (i.trans l);have Ru:=(C.trans (Bu.al _ _ _)).trans o;have RE:g<=t.heap.size:=dE;rw[show [92,114]=CJ c from y.out.symm,<-E.out]at Dy;exact mA
     ·have i:=(Below.refl g wr).al D (.cells #[.int .u8 92,.int .u8 116] 5);have r:Rd (wr.alloc (.cells #[.int .u8 92,.int .u8 116] 5)) (wr.heap.size+1) (some ⟨wr.heap.size,0,none⟩) 2 [92,116]:=AH wr [92,116];go_wp2_with fail;refine tZ (q _) ?_;clear q;go_wp2_with(at_builtin;go_must(refine vl rfl rfl (v.alloc _) rfl r V (by simp;omega) ?_);intro A3 c3 t Dy l o);have ze:=z.trans (i.trans l);have Ru:=(C.trans (Bu.al _ _ _)).trans o;have RE:g<=t.heap.size:=dE;rw[show [92,116]=CJ c from y.out.symm,<-E.out]at Dy;exact mA
    ·have b0:(c.toNat:Int)<32:=V;have a7:CJ c=[92,117,48,48,Ci[c.toNat/16]?.getD 0,Ci[c.toNat%16]?.getD 0]:=fY;have ar:∀w,(Instr.index 9 (.string ⟨#[48,49,50,51,52,53,54,55,56,57,97,98,99,100,101,102]⟩) (.int .u8 ((c.toNat:Int)/16))).run Tryz.prog w=.ok (.int .u8 ((Ci[c.toNat/16]?.getD 0).toNat:Int)) w:=fun w=>by have:=ZN c.toNat M w;exact eV
     have az:∀w,(Instr.index 9 (.string ⟨#[48,49,50,51,52,53,54,55,56,57,97,98,99,100,101,102]⟩) (.int .u8 (Go.bits BinOp.and IntKind.u8 (c.toNat:Int) 15))).run Tryz.prog w=.ok (.int .u8 ((Ci[c.toNat%16]?.getD 0).toNat:Int)) w:=fun w=>by have:=ZP c.toNat M w;exact eV
     generalize Ci[c.toNat/16]?.getD 0=I at*;generalize Ci[c.toNat%16]?.getD 0=lo at*;have y:=rz a7;clear hq a7;go_wp2_with fail;refine tZ (q _) ?_;clear q;go_upto_region 11 with fail;refine sT [0,1,2,3,4,5,6,7,8,9] [7,8] bm bm bA bm bt (fun wd H tj=> ?_);have Dy:=v.below (H.mono rV);have a2:=C.sY (by first|exact H|exact H.mono rV);have W:=z.trans (H.mono D);have S:g<=wd.heap.size:=V;clear H tj v z C;refine ai ?_;refine tc rfl rfl g (sb _) (fun ab G=> ?_);go_wp2_with fail;refine G _ _ (xn.alloc S _) ?_;clear G ar az;have i:=(Below.refl g wd).al S (.cells #[.int .u8 92,.int .u8 117,.int .u8 48,.int .u8 48,.int .u8 (I.toNat:Int),.int .u8 (lo.toNat:Int)] 5);have r:Rd (wd.alloc (.cells #[.int .u8 92,.int .u8 117,.int .u8 48,.int .u8 48,.int .u8 (I.toNat:Int),.int .u8 (lo.toNat:Int)] 5)) (wd.heap.size+1) (some ⟨wd.heap.size,0,none⟩) 6 [92,117,48,48,I,lo]:=AH wd [92,117,48,48,I,lo];refine tc rfl rfl g rV (fun ab G=> ?_);go_wp2_with(at_builtin;go_must(refine vl rfl rfl (Dy.alloc _) rfl r V (by simp;omega) ?_);intro A3 c3 t a6 l o);refine G _ _ l ?_;clear G;have ze:=W.trans (i.trans l);have Ru:=(a2.trans (Bu.al _ _ _)).trans o;have RE:g<=t.heap.size:=dE;rw[show [92,117,48,48,I,lo]=CJ c from y.out.symm,<-E.out]at a6;clear i r Dy W S l a2 o;refine ai ?_;refine sQ ?_;go_wp2_with fail;refine⟨⟨j+1,A3,m+6,c3,bA,V,rfl,a6,ze,RE,Ru⟩,?_⟩;exact bN
    ·have b8:¬(c.toNat:Int)<32:=V;have y:=rz hq;clear hq;have i:=(Below.refl g wr).al D (.cells #[.int .u8 (c.toNat:Int)] 5);have r:Rd (wr.alloc (.cells #[.int .u8 (c.toNat:Int)] 5)) (wr.heap.size+1) (some ⟨wr.heap.size,0,none⟩) 1 [c]:=AH wr [c];go_wp2_with fail;refine tZ (q _) ?_;clear q;go_wp2_with(at_builtin;go_must(refine vl rfl rfl (v.alloc _) rfl r V (by simp;omega) ?_);intro A3 c3 t Dy l o);have ze:=z.trans (i.trans l);have Ru:=(C.trans (Bu.al _ _ _)).trans o;have RE:g<=t.heap.size:=dE;rw[show [c]=CJ c from y.out.symm,<-E.out]at Dy;exact oG
    ·subst K;have y:=rz hq;clear hq;have i:=(Below.refl g wr).al D (.cells #[.int .u8 47] 5);have r:Rd (wr.alloc (.cells #[.int .u8 47] 5)) (wr.heap.size+1) (some ⟨wr.heap.size,0,none⟩) 1 [47]:=AH wr [47];go_wp2_with fail;refine tZ (q _) ?_;clear q;go_wp2_with(at_builtin;go_must(refine vl rfl rfl (v.alloc _) rfl r V (by simp;omega) ?_);intro A3 c3 t Dy l o);have ze:=z.trans (i.trans l);have Ru:=(C.trans (Bu.al _ _ _)).trans o;have RE:g<=t.heap.size:=dE;rw[show [47]=CJ 47 from y.out.symm,<-E.out]at Dy;exact oG
   ·have af:j=s.length:=V;subst af;rw[Tm]at v;have L:=rd_val wr 34 34 rfl;have i:=(Below.refl g wr).al D (.cells #[.int .u8 34] 5);go_wp2_with(at_builtin;go_must(refine vl rfl rfl (v.alloc _) rfl L V (by simp;omega) ?_);intro A3 c3 bd Dy l o);go_ret;exact⟨A3,m+1,c3,rfl,by simpa[sB]using Dy,z.trans (i.trans l),(C.trans (Bu.al _ _ _)).trans o⟩
def ES(A:aft)(n c d:Nat)(xs s:afs)(w:World)(o:Mem.Own w d A n c xs)(l:n<=1000000000)(q:s.length<=100000000)(hb:d<=w.heap.size):Calls Tryz.prog 120 #[.slice A n c,.string ⟨s.toArray⟩] w fun e w'=>∃(g:aft)(m c2:Nat),e=.returned (.slice g m c2)/\Mem.Own w' d g m c2 (xs++sB s)/\Below d w w':=(PF A n c d xs s w o l q hb).mono fun e w' ⟨g,k,c2,h,i,j,_⟩=>⟨g,k,c2,h,i,j⟩
def Ih(l:afs):Lib.strCells ⟨l.toArray⟩=cells l:=by simp[Lib.strCells,cells,bc]
def MU{e n c:Nat}{A:aft}{xs l:afs}{w:World}(ty:TypeId)(Er:Mem.Own w e A n c xs)(q:n+l.length<=140737488355328)(FN:e<=w.heap.size):∃d c2 w',(Builtin.append_ #[22,9] ty #[.slice A n c,.string ⟨l.toArray⟩]).run Tryz.prog w=.ok (.slice d (n+l.length) c2) w'/\Mem.Own w' e d (n+l.length) c2 (xs++l)/\Below e w w'/\Lu A w w':=by obtain⟨y,j,r,t,v⟩:=xG An;obtain⟨z,w',o,h2,h3,C⟩:=Lib.run_append_own_string (P:=Tryz.prog) (w:=w) e 22 9 ty 5 y tP xV j r t v (.slice A n c) n (cells xs) Er ⟨l.toArray⟩ (by rw[vj];exact dD) (by rw[vj];exact q) FN;rw[vj,Ih]at h2;have i:∃d c2,z=.slice d (n+l.length) c2:=cV;obtain⟨d,c2,rfl⟩:=i;refine⟨d,c2,w',o,by unfold Mem.Own;exact lz,?_,⟨h3.size,fun k hk m=>h3.block k hk (fun g=>m (by cases A with|none=>simp[Value.ownBlock]at g|some ad=>simp only[Value.ownBlock,sq]at g;simp[g]))⟩⟩;exact bV
section
variable{ops:Array Oper}{Q:Exit->Act->World->Prop}{rest:List Oper}{a:Act}{w:World}
def F5{e:Option Tmp}{s x:Operand}{ty:TypeId}{j:String}{g:Array Edge}{i:Option (Nat×Bool)}(q:Region.wanted ⟨e,.call {callee:=.builtin .append,args:= #[s,x],argTypes:= #[22,9]},ty,j,g,i⟩ (yielded ops a.tmps)=true){d n c:Nat}{A:aft}{xs l:afs}(hs:a.eval s=.slice A n c)(m:Mem.Own w d A n c xs)(hx:a.eval x=.string ⟨l.toArray⟩)(o:n+l.length<=140737488355328)(k:d<=w.heap.size)(h:∀A2 c2 w',Mem.Own w' d A2 (n+l.length) c2 (xs++l)->Below d w w'->Lu A w w'->wpList Tryz.prog ops Q rest (a.put e (.slice A2 (n+l.length) c2)) w'):wpList Tryz.prog ops Q (⟨e,.call {callee:=.builtin .append,args:= #[s,x],argTypes:= #[22,9]},ty,j,g,i⟩::rest) a w:=by
 refine tG q fun K hK=> ?_
 obtain⟨A2,c2,w',IS,h2,h3,h4⟩:=MU (w:=w) ty m o k;exact cF
end
structure z8(b:Nat)(w w':World):Prop where
 size:w.heap.size<=w'.heap.size
 block:∀k,k<w.heap.size->k≠b->(∀cur fz,w.heap[k]?≠some (.cells cur 5 fz))->w'.heap[k]? =w.heap[k]?
section
variable{b i n c:Nat}{w w':World}
def z8.refl(b:Nat)(w:World):z8 b w w:=⟨rZ _,fun _ _ _ _=>rfl⟩
def z8.trans{i:World}(h:z8 b w w')(k:z8 b w' i):z8 b w i:=⟨sn h.size k.size,fun j d hb g=>by have e:=h.block j d hb g;rw[k.block j (rS d h.size) hb (by rw[e];exact g),e]⟩
def z8.off(h:sa b w.heap.size w w'):z8 b w w':=⟨h.size,fun k d hb _=>h.block k d hb⟩
def z8.below(h:afv w w'):z8 b w w':=⟨h.size,fun k d _ _=>h.block k d⟩
def z8.DZ{A:aft}{xs:afs}{w w':World}(o:Mem.Own w i A n c xs)(h:Lu A w w'):z8 b w w':=⟨h.1,fun k l _ m=>
 h.2 k l fun e=>
  by
   rcases o.2 with⟨d,_⟩|⟨g,cap,q,d,_,j,_⟩;·injection d with d;rw[d]at e;simp at e
   ·injection d with d;rw[d]at e;simp only[xm,sq]at e;subst e;exact m _ _ j⟩
def z8.cell(h:z8 b w w'){p:Addr}(g:p.block<w.heap.size)(hb:p.block≠b)(e:∀d fz,w.heap[p.block]?≠some (.cells d 5 fz)):w'.cell? p=w.cell? p:=rK (w:=w) (h.block p.block g hb e)
def By(w:World)(b:Nat)(p A:aft)(n c:Nat)(over:Bool):Prop:=w.heap[b]? =some (.cells #[.pointer p,.slice A n c,.bool over] 140 (0,0))
end
section
variable{w w':World}{b n c B x:Nat}{p A:aft}{over:Bool}
def By.lt(h:By w b p A n c over):b<w.heap.size:=(vm.1 h).1
def By.c0(h:By w b p A n c over):w.cell? (rN b 0)=some (.pointer p):=o8
def By.c1(h:By w b p A n c over):w.cell? (rN b 1)=some (.slice A n c):=o8
def By.c2(h:By w b p A n c over):w.cell? (rN b 2)=some (.bool over):=o8
def By.fz(h:By w b p A n c over)(j:Nat):w.frozen? (rN b j)=false:=by unfold By at h;simp[World.frozen?,h]
def By.sh(h:By w b p A n c over):w.shape? b=some (140,3):=by unfold By at h;simp[World.shape?,h]
def By.s0(h:By w b p A n c over)(q:aft):By (w.setCell ⟨b,0,none⟩ (.pointer q)) b q A n c over:=gQ
def By.s1(h:By w b p A n c over)(d:aft)(e c2:Nat):By (w.setCell ⟨b,1,none⟩ (.slice d e c2)) b p d e c2 over:=gQ
def By.s2(h:By w b p A n c over)(d:Bool):By (w.setCell ⟨b,2,none⟩ (.bool d)) b p A n c d:=gQ
def By.below(h:By w b p A n c over)(hb:Below B w w')(d:b<B):By w' b p A n c over:=(hb.block b d).trans h
def By.off(h:By w b p A n c over)(hb:sa x B w w')(d:b<B)(e:b≠x):By w' b p A n c over:=(hb.block b d e).trans h
end
def Mu:(Tryz.prog.info? 138).map (fun i=>(i.size))=some 2:=bm
def UR:liesAt Tryz.prog Tryz.prog.depth 140 (3/Tryz.prog.cellsOf 140) 0 138 1=true:=bm
def IP(b:Nat)(A:aft)(n c:Nat)(over:Bool)(w:World)(h:By w b none A n c over):Calls Tryz.prog 219 #[sg b] w fun e w'=>e=.returned (.tuple #[])/\w'=w.setCell ⟨b,0,none⟩ (sg b):=by obtain⟨j,d,i⟩:=vq.1 Mu;have k:=h.c0;have l:=h.fz 0;have g:=h.sh;go_enter Tryz.func219,Tryz.ntmps219;go_wp2;rw[Lib.run_to_unsafe w ⟨b,0,none⟩ NM Tryz.underlying294 d (by rw[i];decide) g (Nat.zero_lt_succ 2)];simp only[Result.andThen];rw[Oper.upon_value];go_wp2;rw[run_callFunc_extern Tryz.func237 bm bm bm (e:=Extern.AbiNoEscape.same) bm];rw[Lib.run_noEscape];simp only[Result.andThen];rw[Oper.upon_value];go_wp2;rw[Lib.run_from_unsafe w ⟨b,0,none⟩ Tryz.underlying294 NM d g UR];simp only[Result.andThen];rw[Oper.upon_value];go_wp2;go_end0;exact bK
def Hk(b:Nat)(A:aft)(n c:Nat)(over:Bool)(w:World)(h:By w b (some ⟨b,0,none⟩) A n c over):Calls Tryz.prog 219 #[sg b] w fun e w'=>e=.returned (.tuple #[])/\w'=w:=by obtain⟨j,d,i⟩:=vq.1 Mu;have g:=h.c0;go_enter Tryz.func219,Tryz.ntmps219;go_wp2;rw[Lib.run_neq_ptr_same w _ NM d];go_wp2;go_end0;exact bK
def IN(b:Nat)(p A:aft)(n c:Nat)(over:Bool)(w:World)(h:By w b p A n c over)(d:p=none\/p=some ⟨b,0,none⟩):Calls Tryz.prog 219 #[sg b] w fun e w'=>e=.returned (.tuple #[])/\By w' b (some ⟨b,0,none⟩) A n c over/\sa b w.heap.size w w':=by
 rcases d with rfl|rfl;·refine tZ (IP b A n c over w h) ?_;exact⟨rfl,h.s0 _,(sa.refl _ _ _).setAt _ _⟩
 ·refine tZ (Hk b A n c over w h) ?_;exact⟨rfl,h,sa.refl _ _ _⟩
def PB(b:Nat)(p A:aft)(n c:Nat)(over:Bool)(w:World)(h:By w b p A n c over):Calls Tryz.prog 173 #[sg b] w (zW w (.int .i64 (n:Int))):=by have d:=h.c1;go_enter Tryz.func173,Tryz.ntmps173;exact bI
def Gc(b:Nat)(p A:aft)(n c d:Nat)(over:Bool)(xs l:afs)(w:World)(h:By w b p A n c over)(D:p=none\/p=some ⟨b,0,none⟩)(y:Mem.Own w d A n c xs)(hb:b<d)(t:d<=w.heap.size)(H:n+l.length<=100000000):Calls Tryz.prog 174 #[sg b,.string ⟨l.toArray⟩] w fun e w'=>e=.returned (.tuple #[.int .i64 (l.length:Int),.nilIface])/\∃k c2,By w' b (some ⟨b,0,none⟩) k (n+l.length) c2 over/\Mem.Own w' d k (n+l.length) c2 (xs++l)/\sa b d w w'/\z8 b w w':=by
 go_enter Tryz.func174,Tryz.ntmps174;go_wp2_with fail;refine sG (IN b p A n c over w h D) fun K ⟨g,i⟩=> ?_
 have o:=y.off i hb;have I:=i.size;have C:=i.mono t;have E:=z8.off i;have c0:=g.c0;have c1:=g.c1;have fz:=g.fz 1;go_wp2_with((at_builtin;refine F5 rfl rfl o rfl V V ?_);intro q r L z m v;have j:=g.below m V;have F:=j.c1;have G:=j.fz 1);go_ret2;exact⟨by simp[vj],q,r,j.s1 _ _ _,z.off ((sa.refl b _ _).setAt 1 _) hb,(C.trans (sa.of m)).setAt 1 _,(E.trans (z8.DZ o v)).trans (z8.off ((sa.refl b _ _).setAt 1 _))⟩
