import Derived.Test.YtccjlcadbpinfaaGreatDoorX9
import Derived.RangeFuncBox
import Derived.RangeFuncNested
import Derived.RangeFuncBound
import Derived.RangeFuncCalls
import Derived.RangeFuncLeaves
import Derived.Shelf.Abstract
import Derived.Shelf.RegionOpen
import Derived.OwnWalkIn
import Derived.TacticsInMore
import Derived.LoopNIn
import Derived.LoopIn
import Derived.Sort.OwnSorted
import Derived.Lib.BufferMore
set_option linter.all false
set_option maxRecDepth 100000
set_option maxHeartbeats 16000000
namespace Go.Proofs.YtccjlcadbpinfaaGreatDoor.Tp
open ChangeShapes WideShapes ChangeAt RowKit
open Num Mem Can
def D7(w:World)(X:acO)(k i:Int)(t:acM):uf w X (jv k i ⟨t.toArray⟩ none 0 0 none 0 0) (.mk k i t [] []):=.mk (Row.nil _ _ 5 none) rfl (fun i h=>absurd h bi) (Row.nil _ _ 1 none) rT rT V V
def Sb(xs:acM)(g:Nat)(A:acN)(n c B f:Nat):Prop:=∀(wd:Wd)(b a:Nat)(w:World)(R:Except Int (J×Nat)),Dn xs f a b=some R->Ck w g A n c a 0 wd->g<w.heap.size->Rd w B A n xs->a<=n->b<=32->Calls Tryz.prog 105 #[.pointer (some ⟨g,0,none⟩),.int .i64 (b:Int)] w (DL xs g A n c R w)
def WR(xs:acM)(g:Nat)(A:acN)(n c B f:Nat):Prop:=∀(wd:Wd)(b a:Nat)(w:World)(R:Except Int (J×Nat)),Io xs f a b=some R->Ck w g A n c a 0 wd->g<w.heap.size->Rd w B A n xs->a<=n->b<=32->Calls Tryz.prog 104 #[.pointer (some ⟨g,0,none⟩),.int .i64 (b:Int)] w (DL xs g A n c R w)
def WD(g:Nat)(A:acN)(n c B f depth:Nat)(xs:acM)(wd:Wd)(w:World)(R:Except Int (J×Nat))(p:Sb xs g A n c B f)(r:WR xs g A n c B f)(v:vB xs (f+1) wd depth=some R)(y:Ck w g A n c wd.next 0 wd)(hg:g<w.heap.size)(hr:Rd w B A n xs)(D:B<=g)(x:wd.next<=n)(E:depth<=32):Calls Tryz.prog 51 #[.pointer (some ⟨g,0,none⟩),.int .i64 wd.kind,.int .i64 (depth:Int)] w (DL xs g A n c R w):=by
 have F:=hr.len;have HX:=rq y;have z:=rq p;have C:=rq r;have tS:=v;unfold vB at tS;clear v p r;obtain⟨⟨p0,p1,p2,p3,p4,p5,p6,p7⟩,p8⟩:=y;by_cases m:wd.kind=8
 ·rw[rv m]at tS;injection tS with tS;subst tS;rw[m]at p3|-;go_enter Ap,zg;go_wp2_with fail;refine rV (uD (k:=1) (i:=0) (t:=⟨([]:acM).toArray⟩) (A:=none) (n:=0) (c:=0) (A':=none) (n':=0) (c':=0) rfl rfl ⟨bf,bf,bf,bf,bf⟩) rfl ?_;refine⟨1,0,⟨([]:acM).toArray⟩,none,0,0,none,0,0,rfl,D7 _ _ _ _ _,⟨wd.next,wd,HX.out.below ?_ hg,fun j a' h=> ?_,(fun e h=>bX)⟩,rS.of ?_⟩;·exact lx
  ·exact l9
  ·exact lx
 rw[ru m]at tS;have L:(wd.kind==8)=false:=rr.2 m;clear m;by_cases l:wd.kind=7
 ·rw[rv l]at tS;injection tS with tS;subst tS;rw[l]at p3|-;go_enter Ap,zg;go_wp2_with fail;refine rV (uD (k:=2) (i:=wd.int) (t:=⟨([]:acM).toArray⟩) (A:=none) (n:=0) (c:=0) (A':=none) (n':=0) (c':=0) rfl rfl ⟨bf,bf,bf,bf,bf⟩) rfl ?_;refine⟨2,wd.int,⟨([]:acM).toArray⟩,none,0,0,none,0,0,rfl,D7 _ _ _ _ _,⟨wd.next,wd,HX.out.below ?_ hg,fun j a' h=> ?_,(fun e h=>bX)⟩,rS.of ?_⟩;·exact lx
  ·exact l9
  ·exact lx
 rw[ru l]at tS;have K:(wd.kind==7)=false:=rr.2 l;clear l;by_cases o:wd.kind=9
 ·rw[rv o]at tS;injection tS with tS;subst tS;rw[o]at p3|-;go_enter Ap,zg;go_wp2_with fail;refine rV (uD (k:=3) (i:=wd.int) (t:=⟨([]:acM).toArray⟩) (A:=none) (n:=0) (c:=0) (A':=none) (n':=0) (c':=0) rfl rfl ⟨bf,bf,bf,bf,bf⟩) rfl ?_;refine⟨3,wd.int,⟨([]:acM).toArray⟩,none,0,0,none,0,0,rfl,D7 _ _ _ _ _,⟨wd.next,wd,HX.out.below ?_ hg,fun j a' h=> ?_,(fun e h=>bX)⟩,rS.of ?_⟩;·exact lx
  ·exact l9
  ·exact lx
 rw[ru o]at tS;have M:(wd.kind==9)=false:=rr.2 o;clear o;by_cases a:wd.kind=10
 ·rw[rv a]at tS;injection tS with tS;subst tS;rw[a]at p3|-;go_enter Ap,zg;go_wp2_with fail;refine rV (uD (k:=4) (i:=0) (t:=⟨wd.text.toArray⟩) (A:=none) (n:=0) (c:=0) (A':=none) (n':=0) (c':=0) rfl rfl ⟨bf,bf,bf,bf,bf⟩) rfl ?_;refine⟨4,0,⟨wd.text.toArray⟩,none,0,0,none,0,0,rfl,D7 _ _ _ _ _,⟨wd.next,wd,HX.out.below ?_ hg,fun j a' h=> ?_,(fun e h=>bX)⟩,rS.of ?_⟩;·exact lx
  ·exact l9
  ·exact lx
 rw[ru a]at tS;have H:(wd.kind==10)=false:=rr.2 a;clear a;by_cases d:wd.kind=3
 ·rw[rv d]at tS;rw[d]at p3|-;by_cases Zn:depth=32;·exact oJ
  ·rw[ru Zn]at tS;have Zs:((depth:Int)==32)=false:=rr.2 V;go_enter Ap,zg;go_upto_region 1 with fail;have tm:=(acQ w).al rT (jZ);have FK:=HX.out.below tm hg;have Xl:=vC.new w 0 0 ⟨#[]⟩ none 0 0 none 0 0 w.heap.size rfl;have ZG:=hr.tw tm V;have YT:w.heap.size<(w.alloc (jZ)).heap.size:=bi;have Qx:rS g w.heap.size w (w.alloc (jZ)):=rS.of tm;clear tm p0 p1 p2 p3 p4 p5 p6 p7 p8;generalize w.alloc (jZ)=w1 at*;have hcl:=z.out wd (depth+1) wd.next w1 R tS FK V ZG x V;exact ly
 rw[ru d]at tS;have I:(wd.kind==3)=false:=rr.2 d;clear d;by_cases h1:wd.kind=1
 ·rw[rv h1]at tS;rw[h1]at p3|-;by_cases Zn:depth=32;·exact oJ
  ·rw[ru Zn]at tS;have Zs:((depth:Int)==32)=false:=rr.2 V;go_enter Ap,zg;go_upto_region 1 with fail;have tm:=(acQ w).al rT (jZ);have FK:=HX.out.below tm hg;have Xl:=vC.new w 0 0 ⟨#[]⟩ none 0 0 none 0 0 w.heap.size rfl;have ZG:=hr.tw tm V;have YT:w.heap.size<(w.alloc (jZ)).heap.size:=bi;have Qx:rS g w.heap.size w (w.alloc (jZ)):=rS.of tm;clear tm p0 p1 p2 p3 p4 p5 p6 p7 p8;generalize w.alloc (jZ)=w1 at*;have hcl:=C.out wd (depth+1) wd.next w1 R tS FK V ZG x V;exact ly
 rw[ru h1]at tS;have G:(wd.kind==1)=false:=rr.2 h1;clear h1;injection tS with tS;subst tS;go_enter Ap,zg;go_upto_region 1 with fail;have tm:=(acQ w).al rT (jZ);have FK:=HX.out.below tm hg;have Xl:=vC.new w 0 0 ⟨#[]⟩ none 0 0 none 0 0 w.heap.size rfl;have ZG:=hr.tw tm V;have YT:w.heap.size<(w.alloc (jZ)).heap.size:=bi;have Qx:rS g w.heap.size w (w.alloc (jZ)):=rS.of tm;clear tm p0 p1 p2 p3 p4 p5 p6 p7 p8;generalize w.alloc (jZ)=w1 at*;go_wp2_with fail;refine(vD g A n c wd.next 0 20 wd w1 FK).mono ?_;exact lg
end Go.Proofs.YtccjlcadbpinfaaGreatDoor.Tp
namespace Go.Proofs.YtccjlcadbpinfaaGreatDoor.Tp
open Go.RowKit Go.Shelf
open Num Mem Can
attribute [local go_sem] Oper.semAt_some
def An(f:Nat->acM)(k:Nat):List acM:=(List.range k).map f
def HM(f:Nat->acM)(k:Nat):An f (k+1)=An f k++[f k]:=by simp[An,List.range_succ]
def Kv(f:Nat->acM)(k:Nat):(An f k).length=k:=by simp[An]
def Rr(zs:List acM):An (fun j=>zs[j]?.getD []) zs.length=zs:=by
 apply zf;·simp[An]
 ·intro i b a;simp[An,a]
def Oo(zs:List acM){k:Nat}(b:k<=zs.length):An (fun j=>zs[j]?.getD []) k=zs.take k:=by
 apply zf;·simp[An,b]
 ·intro i a d;have:i<zs.length:=by simp[An]at a;omega
  simp[An,this]
def Oq(F:Fence)(n:Nat)(A:F.fn 229)(K:F.round=none)(T:1<=n)(l m g b off len cap:Nat)(zs:List acM)(U:len*16<=140737488351232)(hb:b<g)(J o:List acM->World->Prop)(E:∀pre x a,J pre a->pre.length<len->YieldAt F (n-1) Tryz.prog l #[.string ⟨x.toArray⟩] a fun e d=>(e=.returned (.bool true)/\J (pre++[x]) d/\Below g a d)\/(e=.returned (.bool false)/\o (pre++[x]) d))(a:World)(Q:a.cell? ⟨m,0,none⟩=some (.slice (some ⟨b,off,none⟩) len cap))(G:∀j,j<len->a.cell? ⟨b,off+j,none⟩=some (.string ⟨(zs[j]?.getD []).toArray⟩))(z:J [] a):CallsIn F n Tryz.prog 229 #[.func (.yield l) #[] #[],.pointer (some ⟨m,0,none⟩)] a fun e d=>(∃v,e=.returned v)/\((∃y,y=An (fun j=>zs[j]?.getD []) len/\J y d)\/(∃pre,(∃k,k<=len/\pre=An (fun j=>zs[j]?.getD []) k)/\o pre d)):=by
 refine callsIn_of_wp Tryz.func229 rfl A ?_ K;simp only[Tryz.ntmps229,PM,rM,sc,Nat.reduceAdd,Nat.reduceSub,Jk,Jl,PK,KT,sd,sa];gi_wp2;gi_loopw [7] (fun i wr=>∃k:Nat,k<=len/\i=.int .i64 k/\J (An (fun j=>zs[j]?.getD []) k) wr/\Below g a wr) (fun i _=>len-(intOf i).toNat);case atStart=>exact⟨0,rO _,rfl,z,Below.refl _ _⟩
 case
  round=>
   obtain⟨k,S,rfl,q,t⟩:=hrel;have H:k<len->wr.cell? ⟨b,off+k,none⟩=some (.string ⟨(zs[k]?.getD []).toArray⟩):=fun h=>(t.cell (p:=⟨b,off+k,none⟩) hb).trans (G k h)
   by_cases r:k<len
   ·obtain⟨O,X,M,N,W,D⟩:=E _ (zs[k]?.getD []) wr q (by rw[Kv];exact r);have R:=H r;gi_wp2;refine D.mono ?_;rintro e L (⟨rfl,B,I⟩|⟨rfl,C⟩)
    ·gi_wp2;go_roundw;case rel=>exact⟨k+1,V,bi,by rw[HM];exact B,t.trans I⟩
     case measure=>simp[intOf];omega
    ·gi_wp2;refine rV (tA rfl _ _ _) rfl ?_;exact⟨⟨_,rfl⟩,.inr ⟨_,⟨k+1,V,(HM _ _).symm⟩,C⟩⟩
   ·obtain rfl:k=len:=V;gi_wp2;go_end0;exact⟨⟨_,rfl⟩,.inl ⟨_,rfl,q⟩⟩
def HS(F:Fence)(n:Nat)(h:F.fn 229)(k:F.round=none)(l b:Nat)(A:acN)(c:Nat)(J:List acM->World->Prop)(a:World)(m:a.cell? ⟨b,0,none⟩=some (.slice A 0 c))(g:J [] a):CallsIn F n Tryz.prog 229 #[.func (.yield l) #[] #[],.pointer (some ⟨b,0,none⟩)] a fun e d=>(∃v,e=.returned v)/\J [] d:=by
 refine callsIn_of_wp Tryz.func229 rfl h ?_ k;simp only[Tryz.ntmps229,PM,rM,sc,Nat.reduceAdd,Nat.reduceSub,Jk,Jl,PK,KT,sd,sa];gi_wp2;gi_loopw [7] (fun i wr=>i=.int .i64 0/\J [] wr) (fun _ _=>0);case atStart=>exact⟨rfl,g⟩
 case round=>obtain⟨rfl,j⟩:=hrel;gi_wp2;go_end0;exact⟨⟨_,rfl⟩,j⟩
def Kw(F:Fence)(n:Nat)(t:F.fn 229)(E:F.round=none)(R:1<=n)(a i:Nat)(A:acN)(m c:Nat)(zs:List acM)(X:acO)(W:m<=100000000)(w:World)(M:a<w.heap.size)(S:i<=w.heap.size)(N:w.cell? ⟨a,0,none⟩=some (.slice A m c))(hr:Row w X 1 A m (uF zs))(y:∀b,X b->b<i):SeqStopsK F n Tryz.prog 229 #[.pointer (some ⟨a,0,none⟩)] (fun x:acM=> #[Value.string ⟨x.toArray⟩]) (Below i) (fun G=>G=zs) (fun pre=>pre<+:zs) zs.length w:=fun l J H o v _ _ z r=>
 by
  have B:=(v.cell (p:=⟨a,0,none⟩) M).trans N;have q:zs.length=m:=mQ;by_cases K:m=0;·subst K;have T:zs=[]:=rI q;subst T;exact(HS F n t E l a A c J o B r).mono fun e I ⟨g,d⟩=>⟨g,.inl ⟨_,rfl,d⟩⟩
  ·obtain⟨b,off,L,C,O⟩:=hr.pos V;subst L;have Q:∀j,j<m->o.cell? ⟨b,off+j,none⟩=some (.string ⟨(zs[j]?.getD []).toArray⟩):=fun j d=>by have D:j<zs.length:=V;have:=(O j [sv zs[j]] (by simp[uF,D])).2 0 (sv zs[j]) rfl;rw[tv,si]at this;rw[(v.mono S).cell (p:=⟨b,off+j,none⟩) (y b C),this];simp[sv,D]
   refine(Oq F n t E R l a i b off m c zs V (y b C) J H (by rw[q]at z;exact z) o B Q r).mono ?_;rintro e I ⟨g,⟨G,rfl,d⟩|⟨pre,⟨k,U,rfl⟩,d⟩⟩;·exact⟨g,.inl ⟨_,by rw[<-q];exact Rr zs,d⟩⟩
   ·exact⟨g,.inr ⟨_,by rw[Oo zs V];exact List.take_prefix _ _,d⟩⟩
def Jt(F:Fence)(n:Nat)(M:F.fn 242)(B:F.fn 229)(t:F.round=none)(aa:3<=n)(d:Nat)(A:acN)(m c:Nat)(zs:List acM)(X:acO)(T:m<=100000000)(w:World)(N:d<w.heap.size)(r:w.cell? ⟨d,0,none⟩=some (.slice A m c))(hr:Row w X 1 A m (uF zs))(C:∀b,X b->b<w.heap.size):CallsIn F n Tryz.prog 242 #[.slice none 0 0,.func (.func 229) #[] #[.pointer (some ⟨d,0,none⟩)]] w fun e z=>∃v,e=.returned v/\z.ownsRow w.heap.size 9 1 v zs.length (zs.map sv)/\(v=.slice none 0 0↔zs=[])/\acP w z:=by
 have L:1<=n:=V;have a8:zs.length=m:=mQ;obtain⟨a3,R,a0,a1,a2⟩:=xj yu;refine callsIn_of_wp_marks Tryz.func242 rfl M ?_ t;simp only[Tryz.ntmps242,PM,rM,sc,Nat.reduceAdd,Nat.reduceSub,Jk,Jl,PK,KT,sd,sa];gi_wp2;have I:=Boxed.new w 25 (.slice none 0 0);have o:acP w (w.alloc (.cells #[.slice none 0 0] 25)):=(Below.refl _ w).alloc rT _;refine wpIn_rangeFunc_ownG t L (gf:=229) (lb:= #[.pointer (some ⟨d,0,none⟩)]) rfl B (enters_of Tryz.func229 bg rfl) (Kw F (n-1) B t V d w.heap.size A m c zs X T _ (by simp;omega) bi ((o.cell (p:=⟨d,0,none⟩) N).trans r) (hr.keep (fun q U=>o.cell (C _ U)) (fun _ h=>h)) C) belowK_t (belowK_b bi) vK (fun _=>rfl) (fun pre a=>(∃v,Boxed a w.heap.size 25 v/\a.ownsRow w.heap.size 9 1 v pre.length (pre.map sv)/\(v=.slice none 0 0↔pre=[]))/\acP w a) (fun _ _ _=>False) (OwnFrom.and (Own.from (holdsRow_own w.heap.size w.heap.size 25 9 1 (fun pre=>pre.length) (fun pre=>pre.map sv) (fun pre v=>v=.slice none 0 0↔pre=[])) _) (ownFrom_below rT bi)) (fun _ _ _ _ _ Y _ _=>Y) ⟨⟨_,I,uu _ _ _ _,bi⟩,o⟩ (fun x=>{tmps:= #[.slice none 0 0,.func (.func 229) #[] #[.pointer (some ⟨d,0,none⟩)],.pointer (some ⟨w.heap.size,0,none⟩),undef,.slice none 0 0,.string ⟨x.toArray⟩,.func (.func 229) #[] #[.pointer (some ⟨d,0,none⟩)],.string ⟨x.toArray⟩,undef,undef,undef,undef,undef],defers:=[]}) ?assign ?body ?done ?stop;case assign=>intro l x a K i;gi_wp2;exact i
 case body=>rintro l pre x a ⟨⟨v,k,j,E⟩,g⟩ a9;have r:=k.cell;gi_wp2_with (gi_at_builtin;refine wpListIn_append_own _ rfl _ _ 25 rfl w.heap.size 9 a3 (.string ⟨#[]⟩) 1 16 tL R a0 a1 a2 rfl bD _ _ _ rfl (j.alloc _) ⟨a.heap.size,0,none⟩ 1 1 [.string ⟨x.toArray⟩] rfl rfl (cell_one_new _ _ _) ep de V (by have:=g.size;simp;omega) ?_;intro ab w1 G Q _;obtain⟨a5,a4,rfl⟩:=ownsRow_succ G;obtain⟨H,Z,W,S,D⟩:=k.appended bD j g.size rT G Q;have a6:=H.cell;have a7:=H.frozen);exact⟨S.from _,D,⟨_,Z,by rw[rC,wO];have h:=W;simp only[yi,uH,List.map_nil]at h|-;exact h,bi⟩,g.trans D⟩
 case done=>rintro y ac a O rfl ⟨⟨v,k,j,E⟩,g⟩ i;have r:=k.cell;gi_wp2;refine⟨bi,.inl ⟨_,_,rfl,run_takeDeferred i,?_⟩⟩;exact⟨_,results_tmp rfl _ _ _,v,rfl,ownsRow_putObj j _ i rfl,E,g.trans (belowK_b (w:=w) rT a y _ _ (by simp at O;omega) i rfl rfl)⟩
 case stop=>rintro y c pre a _ _ h _;exact h.elim
def H8(a:Nat)(A:acN)(m c:Nat)(zs:List acM)(X:acO)(k:m<=100000000)(w:World)(g:a<w.heap.size)(j:w.cell? ⟨a,0,none⟩=some (.slice A m c))(l:Row w X 1 A m (uF zs))(i:∀b,X b->b<w.heap.size):Calls Tryz.prog 242 #[.slice none 0 0,.func (.func 229) #[] #[.pointer (some ⟨a,0,none⟩)]] w fun e d=>∃v,e=.returned v/\d.ownsRow w.heap.size 9 1 v zs.length (zs.map sv)/\(v=.slice none 0 0↔zs=[])/\acP w d:=(callsIn_wide (n:=3)).1 (Jt Fence.wide 3 trivial trivial rfl V a A m c zs X k w g j l i)
def KK(a:Nat)(A:acN)(m c:Nat)(zs:List acM)(X:acO)(o:m<=100000000)(w:World)(k:a<w.heap.size)(n:w.cell? ⟨a,0,none⟩=some (.slice A m c))(p:Row w X 1 A m (uF zs))(l:∀b,X b->b<w.heap.size):Calls Tryz.prog 227 #[.func (.func 229) #[] #[.pointer (some ⟨a,0,none⟩)]] w fun e d=>∃v,e=.returned v/\d.ownsRow w.heap.size 9 1 v zs.length (zs.map sv)/\(v=.slice none 0 0↔zs=[])/\acP w d:=by have h:=H8 a A m c zs X o w k n p l;go_enter Tryz.func227,Tryz.ntmps227;go_wp2_with fail;refine h.mono ?_;rintro e' q ⟨v,rfl,g,i,j⟩;go_wp2_with fail;go_ret;exact⟨v,rfl,g,i,j⟩
open Go.Sort in
def x9(zs:List acM):List acM:=zs.mergeSort fun x y=>decide (x<=y)
def SP(l:List acM):l.map encStr=l.map sv:=rfl
def MY(a:Nat)(A:acN)(m c:Nat)(zs:List acM)(X:acO)(C:m<=100000000)(w:World)(r:a<w.heap.size)(y:w.cell? ⟨a,0,none⟩=some (.slice A m c))(o:Row w X 1 A m (uF zs))(x:∀b,X b->b<w.heap.size):Calls Tryz.prog 199 #[.func (.func 229) #[] #[.pointer (some ⟨a,0,none⟩)]] w fun e k=>∃v,e=.returned v/\k.ownsRow w.heap.size 9 1 v zs.length ((x9 zs).map sv)/\(v=.slice none 0 0↔zs=[])/\acP w k:=by
 have R:zs.length<=100000000:=by
  have:=o.len;have Q:(uF zs).length=zs.length:=by simp[uF]
  omega
 have h:=KK a A m c zs X C w r y o x;go_enter Tryz.func199,Tryz.ntmps199;go_wp2_with fail;refine h.mono ?_;rintro e' d ⟨v,rfl,p,D,hb⟩;rcases p.2 with⟨rfl,H⟩|⟨g,cap,O,rfl,l,i,K,L,M,N⟩;·have F:zs=[]:=rI H;subst F;go_wp2_with fail;refine(Tryz.slices_Sort_string_none none 0 d).mono ?_;rintro e' w' ⟨rfl,rfl⟩;go_wp2_with fail;go_ret;exact⟨.slice none 0 0,rfl,by rw[show x9 []=[]by simp[x9]];exact p,bi,hb⟩
 ·have t:Go.Sort.Holds encStr d g 0 zs.toArray:=holds_of_block i (by rw[SP];simpa using N);have z:g<d.heap.size:=(uh.1 i).1;have G:zs.length<4611686018427387904:=V;have q:=Tryz.slices_Sort_string g 0 cap zs d t z G;go_wp2_with fail;refine q.mono ?_;rintro e' w' ⟨rfl,I,os,rfl⟩;go_wp2_with fail;go_ret;have E:=ownsRow_sorted (ts:=x9 zs) (ss:=zs) (by simp[x9]) l i K L M (os:=os) (n:=I);exact⟨_,rfl,E,D,hb.grown (grownBy_sorted _) hb.size (fun j B=>by cases B;exact l)⟩
end Go.Proofs.YtccjlcadbpinfaaGreatDoor.Tp
namespace Go.Proofs.YtccjlcadbpinfaaGreatDoor.Tp
open ChangeShapes WideShapes ChangeAt RowKit
open Num Mem Can
def yB(t:acM):Bool:=(Ut.vA t).isSome
def Ab:J->Bool
 | .mk k i t l _=>if k=1 then decide (i=0)&&decide (t=[])&&decide (l.length=0)else if k=2 then(decide (i=0)||decide (i=1))&&decide (t=[])&&decide (l.length=0)else if k=3 then decide (t=[])&&decide (l.length=0)else if k=4 then decide (i=0)&&decide (l.length=0)&&yB t else if k=5\/k=6 then decide (i=0)&&decide (t=[])else false
def Ss(k i:Int)(text:acM)(items:List J)(keys:List acM)(a8:text.length<=100000000)(w:World)(A:acN)(n c:Nat)(A':acN)(n' c':Nat)(Y:items.length=n):Calls Tryz.prog 154 #[jA k i ⟨text.toArray⟩ A n c A' n' c'] w fun e w'=>e=.returned (.bool (Ab (.mk k i text items keys)))/\acP w w':=by
 obtain⟨R,r⟩:∃R,R=Ab (.mk k i text items keys):=⟨_,rfl⟩;rw[<-r];unfold Ab at r;simp only[Y]at r;have a:=rq r;clear r;have K:=(acQ w).al rT (jC k i ⟨text.toArray⟩ A n c A' n' c');have E:=vC.new w k i ⟨text.toArray⟩ A n c A' n' c' w.heap.size rfl;have a5:w.heap.size<(w.alloc (jC k i ⟨text.toArray⟩ A n c A' n' c')).heap.size:=bi;go_enter Tryz.func154,Tryz.ntmps154;go_upto_region 1 with fail;generalize w.alloc (jC k i ⟨text.toArray⟩ A n c A' n' c')=w1 at*;refine su [0,1,2,3,4,5,6,7,8,9,10,11,12] [] bg bg bi bg (fun _ _ d _ _ h=>bw) (fun wd B sW=> ?_);have M:=E.below B V;have Bj:=K.sV V B;have a7:w.heap.size<wd.heap.size:=V;clear B sW E K;obtain⟨⟨a1,N,O,F,Q⟩,S⟩:=M;repeat((first|(refine sJ rfl rfl rfl bh ?_)|(refine sN rfl rfl rfl ?_)|(refine sM rfl rfl rfl (wd.heap.size) V _ (by intro w' hb;have ad:=(hb.cell (p:=⟨w.heap.size,1,none⟩) bd).trans N;have af:=(hb.cell (p:=⟨w.heap.size,2,none⟩) bd).trans O;have ak:=(hb.cell (p:=⟨w.heap.size,3,none⟩) bd).trans F;clear hb;go_simp;first|done|with_reducible rfl) ?_));simp only[Act.put,rB,rz,rA])
 refine sn ?_;have H:(i !=0)= !decide (i=0):=by by_cases h:i=0<;>simp[h]
 have I:(!text.isEmpty)= !decide (text=[]):=by cases text<;>simp
 have G:decide (0<n)= !decide (n=0):=by by_cases h:n=0<;>simp[h];omega
 rw[H,I,G];clear H I G;clear F Q S;by_cases b:k=1;·have h:=a.out;simp only[b,rv]at h;have HH:=rq h;subst b;clear h a;exact dv
 have v:(k==1)=false:=rr.2 b;by_cases g:k=2
 ·have h:=a.out;rw[ru b,rv g]at h;have HH:=rq h;subst g;clear h a b v;by_cases y:i=0;·have h:=HH.out;simp only[y,xK,wW,rU]at h;subst y;clear HH;have HH:=rq h;clear h;simp only[xK];generalize decide (text=[])=TB at*;exact eO
  ·have a9:(i==0)=false:=rr.2 y;by_cases z:i=1;·have h:=HH.out;simp only[z,xK,Gc,rU]at h;subst z;clear HH;have HH:=rq h;clear h;generalize decide (text=[])=TB at*;exact eO
   ·have v:(i==1)=false:=rr.2 z;have h:=HH.out;simp[y,z]at h;subst h;clear HH;exact bt
 have C:(k==2)=false:=rr.2 g;by_cases j:k=3;·have h:=a.out;rw[ru b,ru g,rv j]at h;have HH:=rq h;subst j;clear h a b v g C;exact dv
 have L:(k==3)=false:=rr.2 j;by_cases o:k=4
 ·have h:=a.out;rw[ru b,ru g,ru j,rv o]at h;have HH:=rq h;subst o;clear h a b v g C j L;have x:=fun(q:Nat)(m:World) T=>Ut.C8 (some ⟨wd.heap.size,0,none⟩) text.length q (wd.heap.size+1) text m T V
  generalize U:decide (i=0)=NB at*;generalize W:decide (n=0)=IB at*;cases NB;·have h:=HH.out;simp at h;subst h;clear HH x;exact bt
  ·cases IB;·have h:=HH.out;simp at h;subst h;clear HH x;exact bt
   ·have h:=HH.out;simp only[rU]at h;clear HH;have D:∀q m,Rd m (wd.heap.size+1) (some ⟨wd.heap.size,0,none⟩) text.length text->Calls Tryz.prog 81 #[.slice (some ⟨wd.heap.size,0,none⟩) text.length q] m fun e w'=>e=.returned (.bool R)/\m=w':=by rw[h];exact x
    clear x h U W;go_wp2_with(refine za (t:=text) rfl rfl ?_;intro q m a4 Z X a6);refine(D q m Z).mono ?_;rintro e' ac ⟨rfl,rfl⟩;clear D;have yq:=Bj.sV (sG V rT) X;exact jh
 have a0:(k==4)=false:=rr.2 o;by_cases l:k=5\/k=6;·have h:=a.out;rw[ru b,ru g,ru j,ru o,rv l]at h;have HH:=rq h;rcases l with rfl|rfl;all_goals clear h a b v g C j L o a0;generalize decide (i=0)=NB at*;generalize decide (text=[])=TB at*;generalize decide (n=0)=IB at*;cases NB<;>cases TB<;>cases IB;all_goals have h:=HH.out;simp at h;subst h;clear HH;go_wp2_with fail;go_ret;exact⟨rfl,Bj⟩
 ·have h:=a.out;rw[ru b,ru g,ru j,ru o,ru l]at h;have aa:(k==5)=false:=rr.2 (fun h=>l (.inl h));have ab:(k==6)=false:=rr.2 (fun h=>l (.inr h));have a2:¬k=5:=fun h=>l (.inl h)
  have a3:¬k=6:=fun h=>l (.inr h)
  subst h;clear l a;exact bt
def xz{a:Type}(p:a->Bool):List a->Int
 | []=> -1
 |x::r=>if p x=true then 0 else if xz p r<0 then-1 else xz p r+1
def D4{b:Type}(p:b->Bool)(l:List b):decide (0<=xz p l)=l.any p:=by
 induction l with
 |nil=>simp[xz]
 |cons x r d=>
  rw[List.any_cons,<-d,zR];simp only[rQ,wN];rw[show xz p (x::r)=if p x=true then 0 else if xz p r<0 then-1 else xz p r+1 from rfl];by_cases h:p x=true;·simp[h]
  ·by_cases a:xz p r<0;·simp[h,a]
   ·simp[h,a];omega
def EI{a:Type}(p:a->Bool)(j:Nat)(l:List a):Int:=if xz p l<0 then-1 else(j:Int)+xz p l
def LK{a:Type}{p:a->Bool}{j:Nat}{x:a}{r:List a}(h:p x=true):EI p j (x::r)=j:=by simp[EI,xz,h]
def IV{a:Type}{p:a->Bool}{j:Nat}{x:a}{r:List a}(h:p x=false):EI p j (x::r)=EI p (j+1) r:=by
 unfold EI;simp only[xz,h];by_cases b:xz p r<0;·simp[b]
 ·have:¬xz p r+1<0:=V;simp[b,this];omega
def zT{a:Type}(p:a->Bool)(l:List a):EI p 0 l=xz p l:=by
 have b:∀l:List a, -1<=xz p l:=by
  intro l;induction l with
  |nil=>simp[xz]
  |cons x r d=>simp only[xz];split;omega;split<;>omega
 have:=b l;unfold EI;split<;>omega
def MV(f:Nat)(E:∀args w,(callFunc f args).run Tryz.prog w=.ok (.enter f args) w)(lb:Array Value)(p:acM->Bool)(ks:List acM)(w:World)(X:acO)(A:acN)(n c:Nat)(hr:Row w X 1 A n (uF ks))(y:∀b,X b->b<w.heap.size)(G:n<=100000000)(v:∀x∈ks,∀w',acP w w'->Calls Tryz.prog f (#[.string ⟨x.toArray⟩]++lb) w' fun e D=>e=.returned (.bool (p x))/\acP w' D):Calls Tryz.prog 183 #[.slice A n c,.func (.func f) #[] lb] w fun e w'=>e=.returned (.int .i64 (xz p ks))/\acP w w':=by
 have r:ks.length=n:=mQ;obtain⟨R,d⟩:∃R,R=xz p ks:=⟨_,rfl⟩;rw[<-d];have l:=rq (d.trans (zT p ks).symm);have HL:=rq r;clear d r;go_enter Tryz.func183,Tryz.ntmps183;go_wp2_with fail;go_loopw [8] (fun k wr=>∃j:Nat,k=.int .i64 j/\j<=n/\R=EI p j (ks.drop j)/\acP w wr) (fun k _=>n-(intOf k).toNat);case atStart=>exact⟨0,rfl,rO _,l.out,Below.refl _ _⟩
 case
  round=>
   obtain⟨j,rfl,F,hk,vu⟩:=hrel;have HK:=rq hk;clear hk l;by_cases Ar:j<n;·have a:j<ks.length:=cZ;have Qv:(j:Int)<(n:Int):=V;have o:=rH a;have XI:=v ks[j] (rY a) wr vu;obtain⟨g,q,t,C,m⟩:=hr.pos V;have i:=(m j [sv ks[j]] (by simp[uF,a])).2 0 (sv ks[j]) rfl;rw[tv,si]at i;have B:=(vu.cell (p:=⟨g,q+j,none⟩) (y g C)).trans i;generalize ks[j]=x at*;have HD:=rq (o▸HK.out);subst t;unfold sv at B;clear o i m HK a;go_wp2_with fail;refine XI.mono ?_;rintro e' H ⟨rfl,z⟩;have AZ:=vu.sV (sG vu.size rT|>fun h=>V) z;exact oQ
   ·exact lR
def zb(f:Nat)(d:∀args w,(callFunc f args).run Tryz.prog w=.ok (.enter f args) w)(lb:Array Value)(p:acM->Bool)(ks:List acM)(w:World)(X:acO)(A:acN)(n c:Nat)(j:Row w X 1 A n (uF ks))(g:∀b,X b->b<w.heap.size)(i:n<=100000000)(a:∀x∈ks,∀w',acP w w'->Calls Tryz.prog f (#[.string ⟨x.toArray⟩]++lb) w' fun e k=>e=.returned (.bool (p x))/\acP w' k):Calls Tryz.prog 141 #[.slice A n c,.func (.func f) #[] lb] w fun e w'=>e=.returned (.bool (ks.any p))/\acP w w':=by have h:=MV f d lb p ks w X A n c j g i a;rw[<-D4];generalize xz p ks=l at*;clear a;go_enter Tryz.func141,Tryz.ntmps141;exact bZ
def Kz(x:acM)(b:x.length<=100000000)(w:World):Calls Tryz.prog 201 #[.string ⟨x.toArray⟩] w fun e w'=>e=.returned (.bool (!yB x))/\acP w w':=by
 have hrt:=fun(c7:Nat)(w7:World) a=>Ut.C8 (some ⟨w.heap.size,0,none⟩) x.length c7 (w.heap.size+1) x w7 a V
 unfold yB;generalize(Ut.vA x).isSome=R at*;go_enter Tryz.func201,Tryz.ntmps201;exact dX
def Own.put{w:World}{b n c g:Nat}{xs:acM}(h:Mem.Own w b (some ⟨g,0,none⟩) n c xs)(i:Nat)(x:UInt8)(r:i<n):Mem.Own (w.setCell ⟨g,i,none⟩ (.int .u8 (x.toNat:Int))) b (some ⟨g,0,none⟩) n c (xs.set i x):=by
 obtain⟨e,j⟩:=h;refine⟨by simpa[cells]using e,?_⟩;rcases j with⟨a,_⟩|⟨q,cap,d,a,hb,m,o,k,l,p⟩;·injection a with a;cases a
 ·injection a with a e1 e2;injection a with a;injection a with a;subst a e2;refine .inr ⟨g,c,d.setIfInBounds i (.int .u8 (x.toNat:Int)),rfl,hb,Lib.heap_setCell_same m _,o,k,by simpa using l,?_⟩;rw[Array.toList_setIfInBounds,List.take_set,p];unfold cells;rw[List.map_set];rfl
def Own.cellAt{w:World}{d n c g:Nat}{xs:acM}(h:Mem.Own w d (some ⟨g,0,none⟩) n c xs)(i:Nat)(j:i<xs.length):w.cell? ⟨g,i,none⟩=some (.int .u8 (xs[i].toNat:Int)):=by obtain⟨b,p,a,_,e⟩:=h.rd.2 (by have:=h.len;omega);injection a with a;injection a with h1 h2;subst h1 h2;have:=e i xs[i] (ry j);rw[sY]at this;exact this
def Own.frozenAt{w:World}{b n c g:Nat}{xs:acM}(h:Mem.Own w b (some ⟨g,0,none⟩) n c xs)(i:Nat)(q:0<n):w.frozen? ⟨g,i,none⟩=false:=by
 obtain⟨m,d⟩:=h;rcases d with⟨a,l⟩|⟨k,cap,j,a,hb,e,r,o,p,t⟩;·omega
 ·injection a with a e1 e2;injection a with a;injection a with a;subst a;simp[World.frozen?,e]
def Fa(A:acN)(n c j:Nat)(xs:acM)(w:World)(m:Mem.Own w j A n c xs)(a3:n<=1000000000)(hb:j<=w.heap.size):Calls Tryz.prog 175 #[.slice A n c] w fun e w'=>e=.returned (.tuple #[])/\Mem.Own w' j A n c xs.reverse/\Below j w w':=by
 have E:=m.len;have Z:=m.cap;go_enter Tryz.func175,Tryz.ntmps175;go_wp2_with fail;go_loopw [2,3] (fun s2 O wr=>∃(i:Nat)(a:acM),s2=.int .i64 i/\O=.int .i64 ((n:Int)-1-i)/\i<=n/\Mem.Own wr j A n c a/\a.length=n/\(∀k,k<n->a[k]? =if k<i\/n<=k+i then xs[n-1-k]? else xs[k]?)/\Below j w wr) (fun s2 _ _=>n-(intOf s2).toNat);case atStart=>exact⟨0,xs,rfl,bi,rO _,m,E,fun k hk=>nK,Below.refl _ _⟩
 case
  round=>
   obtain⟨i,a,rfl,rfl,a0,b,hyl,G,vu⟩:=hrel;have HY:=rq G;clear G m;by_cases L:i<n-1-i
   ·obtain⟨J,I⟩:∃J:Nat,J=n-1-i:=⟨_,rfl⟩;have z:((n:Int)-1-i)=(J:Int):=V;rw[z];have Y:(J:Int)<(n:Int):=V;have a2:(i:Int)<(n:Int):=V;have a1:(i:Int)<(J:Int):=V;obtain⟨g,cap,hv,_,C⟩:=World.ownsRow.form b V;have H:A=some ⟨g,0,none⟩:=ie;subst H;have W:J+i+1<=n:=V;have X:n<=J+i+1:=V;have r:i<a.length:=V;have q:J<a.length:=V;have D:=ry r;have F:=ry q;have t:=Own.cellAt b i r;have v:=Own.cellAt b J q;generalize a[i]=x at*;generalize a[J]=y at*;have HX:=rq D;have Y4:=rq F;clear hv I z D F L r q;go_upto_region 3 with fail;refine td (K:=fun _ _ _=>True) NM (sk.of [0,1,2,3,4,5,6,8,9,10] (.fork 7 (sk.of [11,12,13,14,15] .nil) 11 (sk.of [7,12,13,14,15] .nil))) [7,11,13,15] bg bg bC bg (fun _ _ d _ _ h=>bw) (fun a5 l N=> ?_);have o:=b.below l;have B:=vu.trans (l.mono jq);have R:=(l.cell (p:=⟨g,i,none⟩) C).trans t;have S:=(l.cell (p:=⟨g,J,none⟩) C).trans v;have T:=Own.frozenAt o i V;have U:=Own.frozenAt o J V;have LG:=Own.put (Own.put o i y V) J x V;have yq:=((B.setCell (p:=⟨g,i,none⟩) (by assumption) (.int .u8 (y.toNat:Int))).setCell (p:=⟨g,J,none⟩) (by assumption) (.int .u8 (x.toNat:Int)));clear b o t v l N vu B;refine ai ?_;refine zB rfl rfl 0 rT (fun Q1 sP=> ?_) (fun Q1 sP=> ?_);·exact lz
    ·exact lz
   ·have a4:¬(i:Int)<(n:Int)-1-i:=V;have M:a=xs.reverse:=by
     apply List.ext_getElem?;intro k;by_cases hk:k<n
     ·rw[HY.out k hk,List.getElem?_reverse V,E];by_cases h:k<i\/n<=k+i;·rw[rv h]
      ·rw[ru h,show n-1-k=k from V]
     ·exact nR
    rw[M]at b;clear HY;go_wp2_with fail;refine tY (tA rfl _ _ _) rfl ?_;exact⟨rfl,b,vu⟩
def uU:Nat->Nat->acM
 |0,u=>[UInt8.ofNat (48+u)]
 |f+1,u=>if 9<u then UInt8.ofNat (48+u%10)::uU f (u/10)else [UInt8.ofNat (48+u)]
def zO(n:Int):acM:=(if n<0 then [45]else [])++(uU 20 n.natAbs).reverse
def Oz(A:acN)(n c a:Nat)(xs s:acM)(w:World)(a1:Mem.Own w a A n c xs)(b1:n<=1000000000)(b2:s.length<=100000000)(hb:a<=w.heap.size):Calls Tryz.prog 120 #[.slice A n c,.string ⟨s.toArray⟩] w fun e w'=>∃(B:acN)(m c2:Nat),e=.returned (.slice B m c2)/\Mem.Own w' a B m c2 (xs++sU s)/\Below a w w'/\xm A w B w':=by
 go_enter Tryz.func120,Tryz.ntmps120;have b:=(Below.refl a w).al hb (.cells #[.int .u8 34] 5);have G:=rd_val w 34 34 rfl;go_upto_region 2 with(at_builtin;go_must(refine sS rfl rfl (a1.alloc _) rfl G V (by simp;omega) ?_);intro a6 c1 w1 L O W);have K:=b.trans O;have X:=(xm.al A w (.cells #[.int .u8 34] 5)).trans W;have a4:a<=w1.heap.size:=by have:=K.size;omega
 clear b G O a1 W;go_wp2_with fail;go_loopw [0,13] (fun s0 N wr=>∃(j:Nat)(B:acN)(m c2:Nat),N=.int .i64 j/\j<=s.length/\s0=.slice B m c2/\Mem.Own wr a B m c2 (xs++34::(s.take j).flatMap CI)/\Below a w wr/\a<=wr.heap.size/\xm A w B wr) (fun _ N _=>s.length-(intOf N).toNat);case atStart=>exact⟨0,a6,n+1,c1,rfl,rO _,rfl,by simpa using L,K,a4,X⟩
 case
  round=>
   obtain⟨j,B,m,c2,rfl,an,rfl,q,t,x,v⟩:=hrel;have a0:=q.len;rw[rC,rM]at a0;have U:=GR (s.take j);rw[xx]at U;have a5:=L.len;simp only[rC,rM,sc]at a5;have b0:m<=10000000000:=V;clear a0 U a5 L K a4 X;by_cases Z:j<s.length
   ·have ar:(j:Int)<s.length:=V;have ak:=Ju s j (by simpa[ByteArray.size]using Z);have S:xs++34::(s.take (j+1)).flatMap CI=(xs++34::(s.take j).flatMap CI)++CI s[j]:=by rw[yH,ry Z,List.flatMap_append];simp
    have a8:=Ma s[j];generalize s[j]=c at*;have I:=fun w=>Tryz.strings_IndexByte ⟨tF.toArray⟩ (c.toNat:Int) w
    have T:(((c.toNat:Nat):Int)).toNat.toUInt8=c:=bi;simp only[T]at I;have l:∀w,Calls Tryz.prog 152 #[.string ⟨#[34,92,47,8,12,10,13,9]⟩,.int .u8 (c.toNat:Int)] w fun e w'=>e=.returned (.int .i64 (Lib.indexByte tF c))/\w=w':=fun w=>(I w).mono fun _ _ h=>⟨h.1,h.2.symm⟩
    clear I T;have aU:=c.toNat_lt;have y:=rq S;clear S;generalize Lib.indexByte tF c=ad at*;rcases a8 with⟨k,rfl,F,aa,hq⟩|⟨rfl,H,hq⟩|⟨rfl,H,hq⟩|⟨rfl,F,hq⟩
    ·have b4:((c.toNat:Int)==47)=false:=rr.2 (fun h=>F (tC.1 (by rw[show c.toNat=47 from V];rfl)));have r:=rq hq;clear hq F;rcases aa with rfl|rfl|rfl|rfl|rfl|rfl|rfl;·have b:=(Below.refl a wr).al x (.cells #[.int .u8 92,.int .u8 34] 5);have o:Rd (wr.alloc (.cells #[.int .u8 92,.int .u8 34] 5)) (wr.heap.size+1) (some ⟨wr.heap.size,0,none⟩) 2 [92,34]:=Al wr [92,34];go_wp2_with fail;refine(l _).mono ?_;rintro e' z ⟨rfl,rfl⟩;clear l;go_wp2_with(at_builtin;go_must(refine sS rfl rfl (q.alloc _) rfl o V (by simp;omega) ?_);intro A3 c3 p Eo g i);have yq:=t.trans (b.trans g);have Qt:=(v.trans (xm.al _ _ _)).trans i;have QD:a<=p.heap.size:=dg;rw[show [92,34]=CI c from r.out.symm,<-y.out]at Eo;exact lS
     ·have b:=(Below.refl a wr).al x (.cells #[.int .u8 92,.int .u8 92] 5);have o:Rd (wr.alloc (.cells #[.int .u8 92,.int .u8 92] 5)) (wr.heap.size+1) (some ⟨wr.heap.size,0,none⟩) 2 [92,92]:=Al wr [92,92];go_wp2_with fail;refine(l _).mono ?_;rintro e' z ⟨rfl,rfl⟩;clear l;go_wp2_with(at_builtin;go_must(refine sS rfl rfl (q.alloc _) rfl o V (by simp;omega) ?_);intro A3 c3 p Eo g i);have yq:=t.trans (b.trans g);have Qt:=(v.trans (xm.al _ _ _)).trans i;have QD:a<=p.heap.size:=dg;rw[show [92,92]=CI c from r.out.symm,<-y.out]at Eo;exact lS
     ·have b:=(Below.refl a wr).al x (.cells #[.int .u8 92,.int .u8 98] 5);have o:Rd (wr.alloc (.cells #[.int .u8 92,.int .u8 98] 5)) (wr.heap.size+1) (some ⟨wr.heap.size,0,none⟩) 2 [92,98]:=Al wr [92,98];go_wp2_with fail;refine(l _).mono ?_;rintro e' z ⟨rfl,rfl⟩;clear l;go_wp2_with(at_builtin;go_must(refine sS rfl rfl (q.alloc _) rfl o V (by simp;omega) ?_);intro A3 c3 p Eo g i);have yq:=t.trans (b.trans g);have Qt:=(v.trans (xm.al _ _ _)).trans i;have QD:a<=p.heap.size:=dg;rw[show [92,98]=CI c from r.out.symm,<-y.out]at Eo;exact lS
     ·have b:=(Below.refl a wr).al x (.cells #[.int .u8 92,.int .u8 102] 5);have o:Rd (wr.alloc (.cells #[.int .u8 92,.int .u8 102] 5)) (wr.heap.size+1) (some ⟨wr.heap.size,0,none⟩) 2 [92,102]:=Al wr [92,102];go_wp2_with fail;refine(l _).mono ?_;rintro e' z ⟨rfl,rfl⟩;clear l;go_wp2_with(at_builtin;go_must(refine sS rfl rfl (q.alloc _) rfl o V (by simp;omega) ?_);intro A3 c3 p Eo g i);have yq:=t.trans (b.trans g);have Qt:=(v.trans (xm.al _ _ _)).trans i;have QD:a<=p.heap.size:=dg;rw[show [92,102]=CI c from r.out.symm,<-y.out]at Eo;exact lS
     ·have b:=(Below.refl a wr).al x (.cells #[.int .u8 92,.int .u8 110] 5);have o:Rd (wr.alloc (.cells #[.int .u8 92,.int .u8 110] 5)) (wr.heap.size+1) (some ⟨wr.heap.size,0,none⟩) 2 [92,110]:=Al wr [92,110];go_wp2_with fail;refine(l _).mono ?_;rintro e' z ⟨rfl,rfl⟩;clear l;go_wp2_with(at_builtin;go_must(refine sS rfl rfl (q.alloc _) rfl o V (by simp;omega) ?_);intro A3 c3 p Eo g i);have yq:=t.trans (b.trans g);have Qt:=(v.trans (xm.al _ _ _)).trans i;have QD:a<=p.heap.size:=dg;rw[show [92,110]=CI c from r.out.symm,<-y.out]at Eo;exact lS
     ·have b:=(Below.refl a wr).al x (.cells #[.int .u8 92,.int .u8 114] 5);have o:Rd (wr.alloc (.cells #[.int .u8 92,.int .u8 114] 5)) (wr.heap.size+1) (some ⟨wr.heap.size,0,none⟩) 2 [92,114]:=Al wr [92,114];go_wp2_with fail;refine(l _).mono ?_;rintro e' z ⟨rfl,rfl⟩;clear l;go_wp2_with(at_builtin;go_must(refine sS rfl rfl (q.alloc _) rfl o V (by simp;omega) ?_);intro A3 c3 p Eo g i);have yq:=t.trans (b.trans g);have Qt:=(v.trans (xm.al _ _ _)).trans i;have QD:a<=p.heap.size:=dg;rw[show [92,114]=CI c from r.out.symm,<-y.out]at Eo;exact lS
     ·have b:=(Below.refl a wr).al x (.cells #[.int .u8 92,.int .u8 116] 5);have o:Rd (wr.alloc (.cells #[.int .u8 92,.int .u8 116] 5)) (wr.heap.size+1) (some ⟨wr.heap.size,0,none⟩) 2 [92,116]:=Al wr [92,116];go_wp2_with fail;refine(l _).mono ?_;rintro e' z ⟨rfl,rfl⟩;clear l;go_wp2_with(at_builtin;go_must(refine sS rfl rfl (q.alloc _) rfl o V (by simp;omega) ?_);intro A3 c3 p Eo g i);have yq:=t.trans (b.trans g);have Qt:=(v.trans (xm.al _ _ _)).trans i;have QD:a<=p.heap.size:=dg;rw[show [92,116]=CI c from r.out.symm,<-y.out]at Eo;exact lS
    ·have af:(c.toNat:Int)<32:=V;have a3:CI c=[92,117,48,48,BN[c.toNat/16]?.getD 0,BN[c.toNat%16]?.getD 0]:=fe;have ab:∀w,(Instr.index 9 (.string ⟨#[48,49,50,51,52,53,54,55,56,57,97,98,99,100,101,102]⟩) (.int .u8 ((c.toNat:Int)/16))).run Tryz.prog w=.ok (.int .u8 ((BN[c.toNat/16]?.getD 0).toNat:Int)) w:=fun w=>by have:=XO c.toNat H w;exact fg
     have ac:∀w,(Instr.index 9 (.string ⟨#[48,49,50,51,52,53,54,55,56,57,97,98,99,100,101,102]⟩) (.int .u8 (Go.bits BinOp.and IntKind.u8 (c.toNat:Int) 15))).run Tryz.prog w=.ok (.int .u8 ((BN[c.toNat%16]?.getD 0).toNat:Int)) w:=fun w=>by have:=XQ c.toNat H w;exact fg
     generalize BN[c.toNat/16]?.getD 0=E at*;generalize BN[c.toNat%16]?.getD 0=lo at*;have r:=rq a3;clear hq a3;go_wp2_with fail;refine(l _).mono ?_;rintro e' z ⟨rfl,rfl⟩;clear l;go_upto_region 11 with fail;refine su [0,1,2,3,4,5,6,7,8,9] [7,8] bg bg bi bg (fun _ _ d _ _ h=>bw) (fun wd D sW=> ?_);have Eo:=q.below (D.mono rT);have Y:=v.sV (by first|exact D|exact D.mono rT);have R:=t.trans (D.mono x);have M:a<=wd.heap.size:=V;clear D sW q t v;refine aj ?_;refine sB rfl rfl a (rO _) (fun a7 C=> ?_);go_wp2_with fail;refine C _ _ (vK.alloc M _) ?_;clear C ab ac;have b:=(Below.refl a wd).al M (.cells #[.int .u8 92,.int .u8 117,.int .u8 48,.int .u8 48,.int .u8 (E.toNat:Int),.int .u8 (lo.toNat:Int)] 5);have o:Rd (wd.alloc (.cells #[.int .u8 92,.int .u8 117,.int .u8 48,.int .u8 48,.int .u8 (E.toNat:Int),.int .u8 (lo.toNat:Int)] 5)) (wd.heap.size+1) (some ⟨wd.heap.size,0,none⟩) 6 [92,117,48,48,E,lo]:=Al wd [92,117,48,48,E,lo];refine sB rfl rfl a rT (fun a7 C=> ?_);go_wp2_with(at_builtin;go_must(refine sS rfl rfl (Eo.alloc _) rfl o V (by simp;omega) ?_);intro A3 c3 p a2 g i);refine C _ _ g ?_;clear C;have yq:=R.trans (b.trans g);have Qt:=(Y.trans (xm.al _ _ _)).trans i;have QD:a<=p.heap.size:=dg;rw[show [92,117,48,48,E,lo]=CI c from r.out.symm,<-y.out]at a2;clear b o Eo R M g Y i;refine aj ?_;refine sn ?_;go_wp2_with fail;refine⟨⟨j+1,A3,m+6,c3,bi,V,rfl,a2,yq,QD,Qt⟩,?_⟩;exact bK
    ·have b3:¬(c.toNat:Int)<32:=V;have r:=rq hq;clear hq;have b:=(Below.refl a wr).al x (.cells #[.int .u8 (c.toNat:Int)] 5);have o:Rd (wr.alloc (.cells #[.int .u8 (c.toNat:Int)] 5)) (wr.heap.size+1) (some ⟨wr.heap.size,0,none⟩) 1 [c]:=Al wr [c];go_wp2_with fail;refine(l _).mono ?_;rintro e' z ⟨rfl,rfl⟩;clear l;go_wp2_with(at_builtin;go_must(refine sS rfl rfl (q.alloc _) rfl o V (by simp;omega) ?_);intro A3 c3 p Eo g i);have yq:=t.trans (b.trans g);have Qt:=(v.trans (xm.al _ _ _)).trans i;have QD:a<=p.heap.size:=dg;rw[show [c]=CI c from r.out.symm,<-y.out]at Eo;exact nF
    ·subst F;have r:=rq hq;clear hq;have b:=(Below.refl a wr).al x (.cells #[.int .u8 47] 5);have o:Rd (wr.alloc (.cells #[.int .u8 47] 5)) (wr.heap.size+1) (some ⟨wr.heap.size,0,none⟩) 1 [47]:=Al wr [47];go_wp2_with fail;refine(l _).mono ?_;rintro e' z ⟨rfl,rfl⟩;clear l;go_wp2_with(at_builtin;go_must(refine sS rfl rfl (q.alloc _) rfl o V (by simp;omega) ?_);intro A3 c3 p Eo g i);have yq:=t.trans (b.trans g);have Qt:=(v.trans (xm.al _ _ _)).trans i;have QD:a<=p.heap.size:=dg;rw[show [47]=CI 47 from r.out.symm,<-y.out]at Eo;exact nF
   ·have a9:j=s.length:=V;subst a9;rw[Sa]at q;have G:=rd_val wr 34 34 rfl;have b:=(Below.refl a wr).al x (.cells #[.int .u8 34] 5);go_wp2_with(at_builtin;go_must(refine sS rfl rfl (q.alloc _) rfl G V (by simp;omega) ?_);intro A3 c3 z Eo g i);go_ret;exact⟨A3,m+1,c3,rfl,by simpa[sU]using Eo,t.trans (b.trans g),(v.trans (xm.al _ _ _)).trans i⟩
def Ew(A:acN)(n c a:Nat)(xs s:acM)(w:World)(j:Mem.Own w a A n c xs)(i:n<=1000000000)(l:s.length<=100000000)(hb:a<=w.heap.size):Calls Tryz.prog 120 #[.slice A n c,.string ⟨s.toArray⟩] w fun e w'=>∃(b:acN)(m c2:Nat),e=.returned (.slice b m c2)/\Mem.Own w' a b m c2 (xs++sU s)/\Below a w w':=(Oz A n c a xs s w j i l hb).mono fun e w' ⟨b,k,c2,d,g,h,_⟩=>⟨b,k,c2,d,g,h⟩
