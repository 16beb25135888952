import Derived.Test.YtccjlcadbpinfaaGreatDoorX16
import Derived.Test.YtccjlcadbpinfaaGreatDoorX17
import Derived.Test.YtccjlcadbpinfaaGreatDoorX14
import Derived.Deep.DeepCutAuto
set_option linter.all false
set_option maxRecDepth 100000
set_option maxHeartbeats 16000000
namespace Go.Proofs.YtccjlcadbpinfaaGreatDoor.Tp
open ChangeShapes WideShapes ChangeAt RowKit
open Num Mem Can
def MS(f:Nat)(H:∀args w,(callFunc f args).run Tryz.prog w=.ok (.enter f args) w)(lb:Array Value)(p:Int->Bool)(l:List Int)(w:World)(X:acO)(A:acN)(n c:Nat)(hr:Row w X 1 A n (yI l))(E:∀b,X b->b<w.heap.size)(L:n<=100000000)(hP:∀x∈l,∀(w':World),acP w w'->Calls Tryz.prog f (#[.int .i64 x]++lb) w' fun e G=>e=.returned (.bool (p x))/\acP w' G):Calls Tryz.prog 186 #[.slice A n c,.func (.func f) #[] lb] w fun e w'=>e=.returned (.int .i64 (xz p l))/\acP w w':=by
 have C:l.length=n:=by have:=hr.len;exact eJ
 obtain⟨R,a⟩:∃R,R=xz p l:=⟨_,rfl⟩;rw[<-a];have y:=rq (a.trans (zT p l).symm);have HL:=rq C;clear a C;go_enter Tryz.func186,Tryz.ntmps186;go_wp2_with fail;go_loopw [8] (fun v wr=>∃j:Nat,v=.int .i64 j/\j<=n/\R=EI p j (l.drop j)/\acP w wr) (fun v _=>n-(intOf v).toNat);case atStart=>exact⟨0,rfl,rO _,y.out,Below.refl _ _⟩
 case
  round=>
   obtain⟨j,rfl,K,hk,vu⟩:=hrel;have HK:=rq hk;clear hk y;by_cases Ar:j<n;·have DZ:j<l.length:=cZ;have Qv:(j:Int)<(n:Int):=V;have VC:=rH DZ;obtain⟨g,q,D,F,z⟩:=hr.pos V;have o:=(z j [.int .i64 l[j]] (by simp[yI,DZ])).2 0 _ rfl;rw[tv,si]at o;have I:=(vu.cell (p:=⟨g,q+j,none⟩) (E g F)).trans o;have XI:=hP l[j] (rY DZ) wr vu;generalize l[j]=x at*;subst D;clear o z;exact o7
   ·exact lR
def Di(f:Nat)(g:∀args w,(callFunc f args).run Tryz.prog w=.ok (.enter f args) w)(lb:Array Value)(p:Int->Bool)(l:List Int)(w:World)(X:acO)(A:acN)(n c:Nat)(q:Row w X 1 A n (yI l))(j:∀b,X b->b<w.heap.size)(o:n<=100000000)(a:∀x∈l,∀(w':World),acP w w'->Calls Tryz.prog f (#[.int .i64 x]++lb) w' fun e v=>e=.returned (.bool (p x))/\acP w' v):Calls Tryz.prog 148 #[.slice A n c,.func (.func f) #[] lb] w fun e w'=>e=.returned (.bool (l.any p))/\acP w w':=by have h:=MS f g lb p l w X A n c q j o a;rw[<-D4];generalize xz p l=y at*;clear a;go_enter Tryz.func148,Tryz.ntmps148;exact bZ
def MU(f:Nat)(ad:∀args w,(callFunc f args).run Tryz.prog w=.ok (.enter f args) w)(lb:Array Value)(p:Nd->Bool)(l:List Nd)(w:World)(X:acO)(A:acN)(n c:Nat)(hr:tV w X A n l)(Q:∀b,X b->b<w.heap.size)(an:n<=100000000)(hP:∀x∈l,∀(A1:acN)(n1 c1:Nat)(a:acN)(C c2:Nat)(o:acN)(D y:Nat)(v:acN)(E z:Nat)(w':World),Fu w' X (#[.int .i64 x.kind,.string ⟨x.name.toArray⟩,.slice A1 n1 c1,.slice a C c2,.slice o D y,.bool x.has,.string ⟨x.sO.toArray⟩,.int .i64 x.size,.int .i64 x.items,.slice v E z]).toList x->acP w w'->Calls Tryz.prog f (#[nA x A1 n1 c1 a C c2 o D y v E z]++lb) w' fun e a2=>e=.returned (.bool (p x))/\acP w' a2):Calls Tryz.prog 204 #[.slice A n c,.func (.func f) #[] lb] w fun e w'=>e=.returned (.int .i64 (xz p l))/\acP w w':=by
 have K:l.length=n:=hr.len;obtain⟨R,F⟩:∃R,R=xz p l:=⟨_,rfl⟩;rw[<-F];have I:=rq (F.trans (zT p l).symm);have HL:=rq K;clear F K;go_enter Tryz.func204,Tryz.ntmps204;go_wp2_with fail;go_loopw [8] (fun H wr=>∃j:Nat,H=.int .i64 j/\j<=n/\R=EI p j (l.drop j)/\acP w wr) (fun H _=>n-(intOf H).toNat);case atStart=>exact⟨0,rfl,rO _,I.out,Below.refl _ _⟩
 case
  round=>
   obtain⟨j,rfl,ak,hk,vu⟩:=hrel;have HK:=rq hk;clear hk I;by_cases Ar:j<n;·have DZ:j<l.length:=cZ;have Qv:(j:Int)<(n:Int):=V;have VC:=rH DZ;obtain⟨g,q,x,A1,n1,c1,a,C,c2,o,D,y,v,E,z,rfl,af,hx,⟨a3,a4,a5,a6,a7,a8,a9,aa,ab,ac⟩,⟨L,M,N,O⟩,⟨S,T,U,W⟩,Y,Z,a0,a1⟩:=uW (hr.below vu Q) Ar;have G:l[j]=x:=cX;have XI:=hP x (G▸rY DZ) A1 n1 c1 a C c2 o D y v E z wr (.mk L M N O S T U W Y Z a0 a1) vu;rw[G]at VC;clear hx G L M N O;exact o7
   ·exact lR
def MR(f:Nat)(a5:∀args w,(callFunc f args).run Tryz.prog w=.ok (.enter f args) w)(lb:Array Value)(p:Fd->Bool)(l:List Fd)(w:World)(X:acO)(A:acN)(n c:Nat)(hr:yJ w X A n l)(O:∀b,X b->b<w.heap.size)(a8:n<=100000000)(hP:∀x∈l,∀(A1:acN)(n1 c1:Nat)(C z:Int)(F:ByteArray)(a:acN)(D v:Nat)(o:acN)(E y:Nat)(w':World),Bw w' X (#[.string ⟨x.name.toArray⟩,.slice A1 n1 c1,.int .i64 x.type,.bool x.has,.int .i64 C,.int .i64 z,.string F,.slice a D v,.slice o E y]).toList x->acP w w'->Calls Tryz.prog f (#[.agg #[.string ⟨x.name.toArray⟩,.slice A1 n1 c1,.int .i64 x.type,.bool x.has,.int .i64 C,.int .i64 z,.string F,.slice a D v,.slice o E y]]++lb) w' fun e T=>e=.returned (.bool (p x))/\acP w' T):Calls Tryz.prog 188 #[.slice A n c,.func (.func f) #[] lb] w fun e w'=>e=.returned (.int .i64 (xz p l))/\acP w w':=by
 have L:l.length=n:=hr.len;obtain⟨R,G⟩:∃R,R=xz p l:=⟨_,rfl⟩;rw[<-G];have K:=rq (G.trans (zT p l).symm);have HL:=rq L;clear G L;go_enter Tryz.func188,Tryz.ntmps188;go_wp2_with fail;go_loopw [8] (fun I wr=>∃j:Nat,I=.int .i64 j/\j<=n/\R=EI p j (l.drop j)/\acP w wr) (fun I _=>n-(intOf I).toNat);case atStart=>exact⟨0,rfl,rO _,K.out,Below.refl _ _⟩
 case
  round=>
   obtain⟨j,rfl,a7,hk,vu⟩:=hrel;have HK:=rq hk;clear hk K;by_cases Ar:j<n;·have DZ:j<l.length:=cZ;have Qv:(j:Int)<(n:Int):=V;have VC:=rH DZ;obtain⟨g,q,x,A1,n1,c1,C,z,F,a,D,v,o,E,y,rfl,a6,hx,⟨U,W,Y,Z,a0,a1,a2,a3,a4⟩,M,N,Q,S⟩:=yY (hr.below vu O) Ar;have H:l[j]=x:=cX;have XI:=hP x (H▸rY DZ) A1 n1 c1 C z F a D v o E y wr (.mk M Q S N) vu;rw[H]at VC;clear hx H M N;exact o7
   ·exact lR
def H9(f:Nat)(E:∀args w,(callFunc f args).run Tryz.prog w=.ok (.enter f args) w)(lb:Array Value)(p:Fd->Bool)(l:List Fd)(w:World)(X:acO)(A:acN)(n c:Nat)(H:yJ w X A n l)(F:∀b,X b->b<w.heap.size)(G:n<=100000000)(q:∀x∈l,∀(A1:acN)(n1 c1:Nat)(y v:Int)(D:ByteArray)(a:acN)(z j:Nat)(g:acN)(C o:Nat)(w':World),Bw w' X (#[.string ⟨x.name.toArray⟩,.slice A1 n1 c1,.int .i64 x.type,.bool x.has,.int .i64 y,.int .i64 v,.string D,.slice a z j,.slice g C o]).toList x->acP w w'->Calls Tryz.prog f (#[.agg #[.string ⟨x.name.toArray⟩,.slice A1 n1 c1,.int .i64 x.type,.bool x.has,.int .i64 y,.int .i64 v,.string D,.slice a z j,.slice g C o]]++lb) w' fun e I=>e=.returned (.bool (p x))/\acP w' I):Calls Tryz.prog 230 #[.slice A n c,.func (.func f) #[] lb] w fun e w'=>e=.returned (.bool (l.any p))/\acP w w':=by have h:=MR f E lb p l w X A n c H F G q;rw[<-D4];generalize xz p l=K at*;clear q;go_enter Tryz.func230,Tryz.ntmps230;exact bZ
def xX(k:Int)(N F S e a B:Bool):Bool:= !(!sf k&&N)&& !(!decide (k=9)&&F)&& !(!decide (k=10)&&S)&& !(!decide (k=14)&&e)&& !(!(decide (k=11)||decide (k=12))&&a)&& !(!decide (k=13)&&B)
def Ce(x:Nd):Bool:=xX x.kind (!decide (x.name=[])||decide (0<x.aliases.length)) (decide (0<x.fields.length)) (decide (0<x.symbols.length)||x.has|| !decide (x.sO=[])) (!decide (x.size=0)) (!decide (x.items=0)) (decide (0<x.rR.length))
def P5(x:Nd)(A1:acN)(n1 c1:Nat)(K:acN)(H c2:Nat)(L:acN)(v N:Nat)(M:acN)(I O:Nat)(w:World)(ad:x.aliases.length=n1)(af:x.fields.length=H)(ak:x.symbols.length=v)(ar:x.rR.length=I):Calls Tryz.prog 124 #[nA x A1 n1 c1 K H c2 L v N M I O] w fun e w'=>e=.returned (.bool (Ce x))/\acP w w':=by
 obtain⟨R,hR⟩:∃R,R=Ce x:=⟨_,rfl⟩;rw[<-hR];unfold Ce at hR;rw[ad,af,ak,ar]at hR;have U:=wY.new w x A1 n1 c1 K H c2 L v N M I O w.heap.size rfl;have a4:=(acQ w).al rT (nC x A1 n1 c1 K H c2 L v N M I O);have bv:w.heap.size<(w.alloc (nC x A1 n1 c1 K H c2 L v N M I O)).heap.size:=bi;obtain⟨k,a6⟩:∃k,k=x.kind:=⟨_,rfl⟩;obtain⟨B3,Y⟩:∃B,B=(!decide (x.name=[])||decide (0<n1)):=⟨_,rfl⟩;obtain⟨B4,Z⟩:∃B,B=decide (0<H):=⟨_,rfl⟩;obtain⟨B5,a0⟩:∃B,B=(decide (0<v)||x.has|| !decide (x.sO=[])):=⟨_,rfl⟩;obtain⟨B6,a1⟩:∃B,B= !decide (x.size=0):=⟨_,rfl⟩;obtain⟨B7,a2⟩:∃B,B= !decide (x.items=0):=⟨_,rfl⟩;obtain⟨B8,a3⟩:∃B,B=decide (0<I):=⟨_,rfl⟩;rw[<-Y,<-Z,<-a0,<-a1,<-a2,<-a3]at hR;have HR:=rq hR;have z:=rq (And.intro Y (And.intro Z (And.intro a0 (And.intro a1 (And.intro a2 a3)))));clear hR Y Z a0 a1 a2 a3 ad af ak ar;go_enter Tryz.func124,Tryz.ntmps124;go_upto_region 1 with fail;generalize w.alloc (nC x A1 n1 c1 K H c2 L v N M I O)=w1 at*;go_cut [3,4,5,6,7,8] (fun bx bz bO c3 c4 c5 ab=>bx=.bool B3/\bz=.bool B4/\bO=.bool B5/\c3=.bool B6/\c4=.bool B7/\c5=.bool B8/\acP w ab/\wY ab w.heap.size x A1 n1 c1 K H c2 L v N M I O/\w.heap.size<ab.heap.size);case
  first
   =>
    have bp:(!x.name.isEmpty)= !decide (x.name=[]):=by cases x.name<;>simp
    have be:(x.size !=0)= !decide (x.size=0):=by by_cases h:x.size=0<;>simp[h]
    have b0:(x.items !=0)= !decide (x.items=0):=by by_cases h:x.items=0<;>simp[h]
    have aU:(!x.sO.isEmpty)= !decide (x.sO=[]):=by cases x.sO<;>simp
    refine su [0,1,2,3,4,5,6,7,8,9,10,11,12,13,14,15,16,17,18,19,20,21,22,23,24,25,26,27,28,29,30,31,32,33,34,35,36,37,38,39,40,41] [] bg bg (by simp) bg (fun _ _ d _ _ h=>by cases d<;>exact h) (fun wd a5 sW=> ?_);have S:=U.below a5 bv;have Bj:=a4.sV V a5;have C:w.heap.size<wd.heap.size:=V;have G:=rq S;clear a5 sW U a4;obtain⟨⟨W,b1,b2,b3,b4,b5,b6,b7,b8,b9⟩,ac⟩:=S;have an:(RowKit.Hid (0<v)/\decide (0<v)=true)\/(RowKit.Hid (v=0)/\decide (0<v)=false):=by
     rcases Nat.eq_zero_or_pos v with h|h;·exact .inr ⟨rq h,by simp[h]⟩
     ·exact .inl ⟨rq h,by simp[h]⟩
    have br:(RowKit.Hid (x.name=[])/\wd.cell? ⟨w.heap.size,1,none⟩=some (.string ⟨#[]⟩))\/(∃c s,RowKit.Hid (x.name=c::s)/\wd.cell? ⟨w.heap.size,1,none⟩=some (.string ⟨(c::s).toArray⟩)):=by
     cases h:x.name with
     |nil=>rw[h]at b1;exact .inl ⟨rq rfl,b1⟩
     |cons c s=>rw[h]at b1;exact .inr ⟨c,s,rq rfl,b1⟩
    have T:(RowKit.Hid (x.has=true)/\wd.cell? ⟨w.heap.size,5,none⟩=some (.bool true))\/(RowKit.Hid (x.has=false)/\wd.cell? ⟨w.heap.size,5,none⟩=some (.bool false)):=by
     cases h:x.has with
     |true=>rw[h]at b5;exact .inl ⟨rq rfl,b5⟩
     |false=>rw[h]at b5;exact .inr ⟨rq rfl,b5⟩
    clear b1 b5;have D:=rq aU;have F:=rq be;have E:=rq b0;clear aU be b0 bp;rcases br with⟨A,b1⟩|⟨c6,s,A,b1⟩
    ·rcases an with⟨y,X⟩|⟨y,X⟩
     ·rcases T with⟨a,b5⟩|⟨a,b5⟩
      ·refine az ?_;refine sn ?_;go_wp2_with fail;go_meet;obtain⟨g,j,l,n,o,q⟩:=z.out;refine⟨?_,?_,?_,?_,?_,?_,Bj,G.out,C⟩;·rw[g,A.out];simp
       ·simp[j]
       ·rw[l,a.out];have:=y.out;have:=D.out;simp[*]
       ·rw[n];have:=F.out;simp[*]
       ·rw[o];have:=E.out;simp[*]
       ·simp[q]
      ·refine az ?_;refine sn ?_;go_wp2_with fail;go_meet;obtain⟨g,j,l,n,o,q⟩:=z.out;refine⟨?_,?_,?_,?_,?_,?_,Bj,G.out,C⟩;·rw[g,A.out];simp
       ·simp[j]
       ·rw[l,a.out];have:=y.out;have:=D.out;simp[*]
       ·rw[n];have:=F.out;simp[*]
       ·rw[o];have:=E.out;simp[*]
       ·simp[q]
     ·rcases T with⟨a,b5⟩|⟨a,b5⟩
      ·refine az ?_;refine sn ?_;go_wp2_with fail;go_meet;obtain⟨g,j,l,n,o,q⟩:=z.out;refine⟨?_,?_,?_,?_,?_,?_,Bj,G.out,C⟩;·rw[g,A.out];simp
       ·simp[j]
       ·rw[l,a.out];have:=y.out;have:=D.out;simp[*]
       ·rw[n];have:=F.out;simp[*]
       ·rw[o];have:=E.out;simp[*]
       ·simp[q]
      ·refine az ?_;refine sn ?_;go_wp2_with fail;go_meet;obtain⟨g,j,l,n,o,q⟩:=z.out;refine⟨?_,?_,?_,?_,?_,?_,Bj,G.out,C⟩;·rw[g,A.out];simp
       ·simp[j]
       ·rw[l,a.out];have:=y.out;have:=D.out;simp[*]
       ·rw[n];have:=F.out;simp[*]
       ·rw[o];have:=E.out;simp[*]
       ·simp[q]
    ·rcases an with⟨y,X⟩|⟨y,X⟩
     ·rcases T with⟨a,b5⟩|⟨a,b5⟩
      ·refine az ?_;refine sn ?_;go_wp2_with fail;go_meet;obtain⟨g,j,l,n,o,q⟩:=z.out;refine⟨?_,?_,?_,?_,?_,?_,Bj,G.out,C⟩;·rw[g,A.out];simp
       ·simp[j]
       ·rw[l,a.out];have:=y.out;have:=D.out;simp[*]
       ·rw[n];have:=F.out;simp[*]
       ·rw[o];have:=E.out;simp[*]
       ·simp[q]
      ·refine az ?_;refine sn ?_;go_wp2_with fail;go_meet;obtain⟨g,j,l,n,o,q⟩:=z.out;refine⟨?_,?_,?_,?_,?_,?_,Bj,G.out,C⟩;·rw[g,A.out];simp
       ·simp[j]
       ·rw[l,a.out];have:=y.out;have:=D.out;simp[*]
       ·rw[n];have:=F.out;simp[*]
       ·rw[o];have:=E.out;simp[*]
       ·simp[q]
     ·rcases T with⟨a,b5⟩|⟨a,b5⟩
      ·refine az ?_;refine sn ?_;go_wp2_with fail;go_meet;obtain⟨g,j,l,n,o,q⟩:=z.out;refine⟨?_,?_,?_,?_,?_,?_,Bj,G.out,C⟩;·rw[g,A.out];simp
       ·simp[j]
       ·rw[l,a.out];have:=y.out;have:=D.out;simp[*]
       ·rw[n];have:=F.out;simp[*]
       ·rw[o];have:=E.out;simp[*]
       ·simp[q]
      ·refine az ?_;refine sn ?_;go_wp2_with fail;go_meet;obtain⟨g,j,l,n,o,q⟩:=z.out;refine⟨?_,?_,?_,?_,?_,?_,Bj,G.out,C⟩;·rw[g,A.out];simp
       ·simp[j]
       ·rw[l,a.out];have:=y.out;have:=D.out;simp[*]
       ·rw[n];have:=F.out;simp[*]
       ·rw[o];have:=E.out;simp[*]
       ·simp[q]
 case
  rest=>
   obtain⟨rfl,rfl,rfl,rfl,rfl,rfl,Bj,S,C⟩:=hcut;clear z U a4;have En:=ve x.kind wc;obtain⟨⟨W,b1,b2,b3,b4,b5,b6,b7,b8,b9⟩,ac⟩:=S;have c7:wc.cell? ⟨w.heap.size,0,none⟩=some (.int .i64 k):=by rw[a6];exact W
   have hR:=HR.out;rw[<-a6]at En hR;clear W b1 b2 b3 b4 b5 b6 b7 b8 b9 ac HR a6;have HR:=rq hR;clear hR;have bs:k=9\/k=10\/k=14\/k=11\/k=12\/k=13\/(k≠9/\k≠10/\k≠14/\k≠11/\k≠12/\k≠13):=V;rcases bs with rfl|rfl|rfl|rfl|rfl|rfl|⟨aa,a8,a9,bj,bk,bn⟩
   ·have hR:=HR.out;rw[show xX 9 B3 B4 B5 B6 B7 B8=(!B5&& !B6&& !B7&& !B8)by simp[xX,show sf 9=true from bD]]at hR;rw[show sf 9=true from bD]at En;have Ca:=rq hR;clear hR HR;have HR:=Ca;clear Ca;go_upto_region 2 with fail;go_wp2_with fail;refine En.mono ?_;rintro e' w3 ⟨rfl,rfl⟩;clear En;go_upto_region 16 with fail;cases B5;·exact pg
    ·exact bo
   ·have hR:=HR.out;rw[show xX 10 B3 B4 B5 B6 B7 B8=(!B4&& !B6&& !B7&& !B8)by simp[xX,show sf 10=true from bD]]at hR;rw[show sf 10=true from bD]at En;have Ca:=rq hR;clear hR HR;have HR:=Ca;clear Ca;go_upto_region 2 with fail;go_wp2_with fail;refine En.mono ?_;rintro e' w3 ⟨rfl,rfl⟩;clear En;go_upto_region 16 with fail;cases B4;·exact pg
    ·exact bo
   ·have hR:=HR.out;rw[show xX 14 B3 B4 B5 B6 B7 B8=(!B4&& !B5&& !B7&& !B8)by simp[xX,show sf 14=true from bD]]at hR;rw[show sf 14=true from bD]at En;have Ca:=rq hR;clear hR HR;have HR:=Ca;clear Ca;go_upto_region 2 with fail;go_wp2_with fail;refine En.mono ?_;rintro e' w3 ⟨rfl,rfl⟩;clear En;go_upto_region 16 with fail;cases B4
    ·cases B5
     ·cases B7;·exact mn
      ·exact bo
     ·exact bo
    ·exact bo
   ·have hR:=HR.out;rw[show xX 11 B3 B4 B5 B6 B7 B8=(!B3&& !B4&& !B5&& !B6&& !B8)by simp[xX,show sf 11=false from bD]]at hR;rw[show sf 11=false from bD]at En;exact mc
   ·have hR:=HR.out;rw[show xX 12 B3 B4 B5 B6 B7 B8=(!B3&& !B4&& !B5&& !B6&& !B8)by simp[xX,show sf 12=false from bD]]at hR;rw[show sf 12=false from bD]at En;exact mc
   ·have hR:=HR.out;rw[show xX 13 B3 B4 B5 B6 B7 B8=(!B3&& !B4&& !B5&& !B6&& !B7)by simp[xX,show sf 13=false from bD]]at hR;rw[show sf 13=false from bD]at En;have Ca:=rq hR;clear hR HR;have HR:=Ca;clear Ca;go_upto_region 2 with fail;go_wp2_with fail;refine En.mono ?_;rintro e' w3 ⟨rfl,rfl⟩;clear En;go_upto_region 16 with fail;cases B3
    ·cases B4
     ·cases B5
      ·cases B6
       ·cases B7;·obtain rfl:R=true:=dh;exact bq
        ·exact bo
       ·exact bo
      ·exact bo
     ·exact bo
    ·exact bo
   ·have a7:sf k=false:=by unfold sf;simp[aa,a8,a9]
    have hR:=HR.out;rw[show xX k B3 B4 B5 B6 B7 B8=(!B3&& !B4&& !B5&& !B6&& !B7&& !B8)by simp[xX,a7,aa,a8,a9,bj,bk,bn]]at hR;rw[a7]at En;have ch:(k==9)=false:=rr.2 aa;have c8:(k==10)=false:=rr.2 a8;have cf:(k==14)=false:=rr.2 a9;have c9:(k==11)=false:=rr.2 bj;have cb:(k==12)=false:=rr.2 bk;have cc:(k==13)=false:=rr.2 bn;clear a7;have Ca:=rq hR;clear hR HR;have HR:=Ca;clear Ca;go_upto_region 2 with fail;go_wp2_with fail;refine En.mono ?_;rintro e' w3 ⟨rfl,rfl⟩;clear En;go_upto_region 16 with fail;cases B3
    ·cases B4
     ·cases B5;·exact pg
      ·exact bo
     ·exact bo
    ·exact bo
def CF{w:World}{N:acO}{H n c:Nat}{A:acN}{l:List acM}(h:uY MF 9 1 nS N w H A n c l):Row w (fun b=>H<=b/\b<w.heap.size) 1 A n (uF l):=by
 obtain⟨css,h1,a,e⟩:=h.row ui V;have e1:css=uF l:=by apply zf (by simp[uF,a]);intro i g j;have:css[i]=[sv l[i]]:=e i g V;rw[this];simp[uF]
 exact nZ
def A8(w:World)(r:Nat)(f:Fd)(A1:acN)(n1 c1:Nat)(k i:Int)(t:ByteArray)(B:acN)(m d:Nat)(B':acN)(m' d':Nat):Prop:=w.cell? ⟨r,0,none⟩=some (.string ⟨f.name.toArray⟩)/\w.cell? ⟨r,1,none⟩=some (.slice A1 n1 c1)/\w.cell? ⟨r,2,none⟩=some (.int .i64 f.type)/\w.cell? ⟨r,3,none⟩=some (.bool f.has)/\w.cell? ⟨r,4,none⟩=some (.int .i64 k)/\w.cell? ⟨r,5,none⟩=some (.int .i64 i)/\w.cell? ⟨r,6,none⟩=some (.string t)/\w.cell? ⟨r,7,none⟩=some (.slice B m d)/\w.cell? ⟨r,8,none⟩=some (.slice B' m' d')
section
variable{w w':World}{r b:Nat}{f:Fd}{A1:acN}{n1 c1:Nat}{k i:Int}{t:ByteArray}{B:acN}{m d:Nat}{B':acN}{m' d':Nat}
def A8.keep(h:A8 w r f A1 n1 c1 k i t B m d B' m' d')(a:∀j,w'.cell? ⟨r,j,none⟩=w.cell? ⟨r,j,none⟩):A8 w' r f A1 n1 c1 k i t B m d B' m' d':=by obtain⟨e,g,l,n,o,p,q,v,x⟩:=h;exact⟨(a 0).trans e,(a 1).trans g,(a 2).trans l,(a 3).trans n,(a 4).trans o,(a 5).trans p,(a 6).trans q,(a 7).trans v,(a 8).trans x⟩
def A8.below(h:A8 w r f A1 n1 c1 k i t B m d B' m' d')(hb:Below b w w')(a:r<b):A8 w' r f A1 n1 c1 k i t B m d B' m' d':=h.keep fun _=>hb.cell a
def A8.zw(h:A8 w r f A1 n1 c1 k i t B m d B' m' d')(hb:w'.heap[r]? =w.heap[r]?):A8 w' r f A1 n1 c1 k i t B m d B' m' d':=h.keep fun j=>by simp only[World.cell?,hb]
def A8.new(w:World)(f:Fd)(A1:acN)(n1 c1:Nat)(k i:Int)(t:ByteArray)(B:acN)(m d:Nat)(B':acN)(m' d':Nat)(r:Nat)(a:r=w.heap.size):A8 (w.alloc (fC f A1 n1 c1 k i t B m d B' m' d')) r f A1 n1 c1 k i t B m d B' m' d':=by subst a;exact⟨bf,bf,bf,bf,bf,bf,bf,bf,bf⟩
end
def CB(f:Fd):Bool:=Ie wa f.aliases&&(if f.has=true then tT f.sO 0 else Br f.sO J.zero)
def yo(l:List Fd):Bool:=l.all CB&&(decide (l.length<=40)&&Cg wa (l.map (·.name)))
structure SmF(f:Fd):Prop where
 name:f.name.length<=100000000
 alias:∀a∈f.aliases,a.length<=100000000
 sO:tE f.sO
def Dz{B:Nat}{n:World}(ks:List acM)(j:∀a∈ks,a.length<=100000000):∀x∈ks,∀w',Below B n w'->Calls Tryz.prog 129 #[.string ⟨x.toArray⟩] w' fun e g=>e=.returned (.bool (wa x))/\acP w' g:=fun x l w' _=>(z8 x (by have:=j x l;omega) w').mono (fun e g h=>⟨h.1,by rw[<-h.2];exact Below.refl _ _⟩)
def Nt(l:List Fd)(af:∀f∈l,SmF f)(w:World)(X:acO)(A:acN)(n c:Nat)(bz:yJ w X A n l)(hX:∀b,X b->b<w.heap.size)(d4:n<=100000000):Calls Tryz.prog 127 #[.slice A n c] w fun e w'=>e=.returned (.bool (yo l))/\acP w w':=by
 have ac:=bz.len;obtain⟨R,G⟩:∃R,R=yo l:=⟨_,rfl⟩;rw[<-G];unfold yo at G;rw[ac]at G;obtain⟨a6,a8⟩:∃a6,a6=(decide (n<=40)&&Cg wa (l.map (·.name))):=⟨_,rfl⟩;rw[<-a8]at G;have b2:=rq G;have b3:=rq a8;have HL:=rq ac;clear G a8 ac;have bs:uY MF 9 1 nS nS w w.heap.size none 0 0 ([]:List acM):=uY.nil _ _ _ _ _ _ _;go_enter Tryz.func127,Tryz.ntmps127;go_wp2_with fail;go_loopw [3,8] (fun d8 ar wr=>∃(j:Nat)(N:acN)(a1:Nat),ar=.int .i64 j/\j<=n/\d8=.slice N j a1/\uY MF 9 1 nS nS wr w.heap.size N j a1 ((l.take j).map (·.name))/\R=((l.drop j).all CB&&a6)/\acP w wr) (fun _ ar _=>n-(intOf ar).toNat);case atStart=>exact⟨0,none,0,rfl,rO _,rfl,by simpa using bs,b2.out,Below.refl _ _⟩
 case
  round=>
   obtain⟨j,N,a1,rfl,di,rfl,x,bx,vu⟩:=hrel;have Q:=rq bx;have d7:=vu.size;clear bx b2;by_cases Ar:j<n
   ·have d3:(j:Int)<(n:Int):=V;have DZ:j<l.length:=cZ;obtain⟨g,p,f,D,L,F,k,i,t,B,m,d,B',m',d',rfl,df,hx,⟨cc,cf,ch,ci,cj,cl,cp,cr,ct⟩,a3,b6,dd,d5⟩:=yY (bz.below vu hX) Ar;have an:l[j]=f:=cX;have c6:=af f (an▸rY DZ);have hd:=Q.out;rw[rH DZ,an,Et,Bool.and_assoc]at hd;have O:=rq hd;have bk:=x.below ui ((acQ wr).al rT (fC f D L F k i t B m d B' m' d'));have b8:=((Below.refl w.heap.size wr).al d7 (fC f D L F k i t B m d B' m' d'));have aU:=A8.new wr f D L F k i t B m d B' m' d' wr.heap.size rfl;have c4:wr.heap.size<(wr.alloc (fC f D L F k i t B m d B' m' d')).heap.size:=bi;have c8:(l.take (j+1)).map (·.name)=(l.take j).map (·.name)++[f.name]:=j9;have b4:=rq c8;have a9:=x.block;clear c8 hx an hd Q x;go_upto_region 5 with fail;generalize wr.alloc (fC f D L F k i t B m d B' m' d')=M at*;clear cc cf ch ci cj cl cp cr ct;have bn:=bk.below ui ((acQ M).al rT (.cells #[.string ⟨f.name.toArray⟩] 9));have be:=b8.trans ((Below.refl w.heap.size M).al V (.cells #[.string ⟨f.name.toArray⟩] 9));have b0:=aU.below ((acQ M).al rT (.cells #[.string ⟨f.name.toArray⟩] 9)) c4;obtain⟨E,_⟩:=aU;go_upto_region 6 with(at_builtin;go_must(refine tX (z:=.string ⟨#[]⟩) (bytes:=16) (H1:=M.heap.size) (y:=f.name) (cs:=[sv f.name]) rfl tL yu rfl V V ui rfl rfl bn rfl V (fun b hb=>by have:=(a9 b hb).2.1;omega) (fun b hb=>fA) (fun b hb=>fA) (fun j u hu=>dS) V (by simp;omega) ?_);intro A7 c7 C bp bj ab cy);have b1:=b0.zw (ab.2 wr.heap.size (by simp;omega) (fun h=>by have:=(a9 _ h).2.1;omega));have a4:=be.trans bj;have d6:wr.heap.size<C.heap.size:=by have:=ab.1;exact kL
    have H:∀b,X b->b<C.heap.size:=fun b hb=>bl
    have b7:=Row.below a3 a4 hX;have a7:=b6.stay a4 hX;have cS:=vu.trans a4;have d2:=b4.out▸bp;clear E bk bn b8 be b0 a4 bj ab cy bp b4 a3 b6 a9 c4;have b9:=OB 129 (enters_of Gp bg rfl) wa f.aliases C X D L F b7 H d5 (Dz f.aliases c6.alias);have bO:=fun v(hb:acP C v)=>CT f.sO c6.sO v X k i t B m d B' m' d' (a7.stay hb H) (fun b h=>by have:=H b h;exact dE)
    have c5:=fun v(hb:acP C v)=>K8 _ f.sO J.zero rT v X k i t B m d B' m' d' 0 0 ⟨#[]⟩ none 0 0 none 0 0 (a7.stay hb H) (uf.zero _ _) (fun b h=>by have:=H b h;exact dE)
    have hd:=O.out;unfold CB at hd;have cz:=b1;obtain⟨E,S,T,o,U,W,Y,Z,a0⟩:=b1;go_wp2_with fail;refine b9.mono ?_;rintro e' v ⟨rfl,I⟩;have ad:=bO v I;have ak:=c5 v I;have cb:=cz.below I d6;have aa:=cS.sV V I;clear b9 bO c5 E S T o U W Y Z a0 b7 a7 H;have br:=d2.below ui I;have dj:=I.size;obtain⟨E,S,T,o,U,W,Y,Z,a0⟩:=cb;cases b5:Ie wa f.aliases with
    |false=>
     rw[b5]at hd;obtain rfl:R=false:=by simpa using hd
     clear hd O;cases K:f.has;all_goals rw[K]at o;go_wp2_with fail;go_ret;exact⟨rfl,aa⟩
    |true=>
     rw[b5,rU]at hd;cases K:f.has with
     |true=>
      rw[K]at o;rw[K,rv rfl]at hd;clear ak;have Y2:=rq hd;clear hd O;go_wp2_with fail;refine ad.mono ?_;rintro e' c9 ⟨rfl,q⟩;have d9:=(q.cell (p:=⟨wr.heap.size,3,none⟩) bd).trans o;have hi9:=br.below ui q;have XM:=aa.sV V q;clear ad E S T o U W Y Z a0;cases hP:tT f.sO 0 with
      |false=>exact fB
      |true=>exact mN
     |false=>
      rw[K]at o;rw[K,ru bi]at hd;clear ad;have Y2:=rq hd;clear hd O;go_wp2_with fail;refine ak.mono ?_;rintro e' c9 ⟨rfl,q⟩;have hi9:=br.below ui q;have XM:=aa.sV V q;clear ak E S T o U W Y Z a0;cases hP:Br f.sO J.zero with
      |false=>exact fB
      |true=>exact mN
   ·obtain rfl:j=n:=V;have hd:=Q.out;rw[th cK,List.all_nil,rU,b3.out]at hd;have bv:l.take j=l:=gw;rw[bv]at x;have c3:=CF x;have d0:=x.cap;have a5:=AR 129 (enters_of Gp bg rfl) wa (l.map (·.name)) wr _ N j a1 c3 (fun b hb=>hb.2) d4 d0 (Dz _ (fun a a3=>by obtain⟨f,d1,rfl⟩:=sR.1 a3;exact(af f d1).name));have d3:¬(j:Int)<(j:Int):=V;clear b3 Q bv x c3 af bs;by_cases a2:j<=40;·have cx:(j:Int)<=40:=V;rw[rP a2,rU]at hd;rw[<-hd]at a5;clear hd a2;go_wp2_with fail;refine a5.mono ?_;rintro e' c9 ⟨rfl,q⟩;clear a5;go_wp2_with fail;go_ret;exact⟨rfl,vu.sV V q⟩
    ·have cx:¬(j:Int)<=40:=V;rw[rF a2,tx]at hd;subst hd;clear a2 a5;exact bW
