import Derived.Test.YtccjlcadbpinfaaGreatDoorX9
import Derived.Test.YtccjlcadbpinfaaGreatDoorX8
import Derived.Deep.DeepCutAuto
import Derived.Deep.OwnRows
set_option linter.all false
set_option maxRecDepth 100000
set_option maxHeartbeats 16000000
namespace Go.Proofs.YtccjlcadbpinfaaGreatDoor.Tp
open ChangeShapes WideShapes ChangeAt RowKit
open Num Mem Can
def NA(f:Nat)(F:∀args w,(callFunc f args).run Tryz.prog w=.ok (.enter f args) w)(lb:Array Value)(p:Int->Bool)(l:List Int)(w:World)(X:afu)(A:aft)(n c:Nat)(hr:Row w X 1 A n (xZ l))(D:∀b,X b->b<w.heap.size)(I:n<=100000000)(hP:∀x∈l,∀(w':World),afv w w'->Calls Tryz.prog f (#[.int .i64 x]++lb) w' (vh w' (.bool (p x)))):Calls Tryz.prog 186 #[.slice A n c,.func (.func f) #[] lb] w (vh w (.int .i64 (xa p l))):=by
 have z:l.length=n:=by have:=hr.len;exact fQ
 obtain⟨R,a⟩:=sW (xa p l);rw[<-a];have v:=rz (a.trans (Am p l).symm);have HL:=rz z;clear a z;go_enter Tryz.func186,Tryz.ntmps186;go_wp2_with fail;go_loopw [8] (fun o wr=>∃j:Nat,o=.int .i64 j/\j<=n/\R=Fh p j (l.drop j)/\afv w wr) (fun o _=>n-(intOf o).toNat);case atStart=>exact⟨0,rfl,sb _,v.out,Below.refl _ _⟩
 case
  round=>
   obtain⟨j,rfl,H,hk,wI⟩:=hrel;have HK:=rz hk;clear hk v;by_cases Dx:j<n;·have Fg:j<l.length:=dv;have Rw:(j:Int)<(n:Int):=V;have YQ:=rM Fg;obtain⟨g,q,C,E,y⟩:=hr.pos V;have e:=(y j [.int .i64 l[j]] (by simp[xZ,Fg])).2 0 _ rfl;rw[tL,sE]at e;have G:=wI.cl e (D g E);have ZJ:=hP l[j] (sj Fg) wr wI;generalize l[j]=x at*;subst C;clear e y;exact pN
   ·exact mz
def Bd(f:Nat)(a:∀args w,(callFunc f args).run Tryz.prog w=.ok (.enter f args) w)(lb:Array Value)(p:Int->Bool)(l:List Int)(w:World)(X:afu)(A:aft)(n c:Nat)(o:Row w X 1 A n (xZ l))(g:∀b,X b->b<w.heap.size)(j:n<=100000000)(e:∀x∈l,∀(w':World),afv w w'->Calls Tryz.prog f (#[.int .i64 x]++lb) w' (vh w' (.bool (p x)))):Calls Tryz.prog 148 #[.slice A n c,.func (.func f) #[] lb] w (vh w (.bool (l.any p))):=by have h:=NA f a lb p l w X A n c o g j e;rw[<-Es];generalize xa p l=q at*;go_enter Tryz.func148,Tryz.ntmps148;exact dF
def ND(f:Nat)(ab:∀args w,(callFunc f args).run Tryz.prog w=.ok (.enter f args) w)(lb:Array Value)(p:Nd->Bool)(l:List Nd)(w:World)(X:afu)(A:aft)(n c:Nat)(hr:tJ w X A n l)(O:∀b,X b->b<w.heap.size)(an:n<=100000000)(hP:∀x∈l,∀(A1:aft)(n1 c1:Nat)(a:aft)(z c2:Nat)(e:aft)(C v:Nat)(o:aft)(D y:Nat)(w':World),Lw w' X (#[.int .i64 x.kind,.string ⟨x.name.toArray⟩,.slice A1 n1 c1,.slice a z c2,.slice e C v,.bool x.has,.string ⟨x.sL.toArray⟩,.int .i64 x.size,.int .i64 x.items,.slice o D y]).toList x->afv w w'->Calls Tryz.prog f (#[nA x A1 n1 c1 a z c2 e C v o D y]++lb) w' (vh w' (.bool (p x)))):Calls Tryz.prog 204 #[.slice A n c,.func (.func f) #[] lb] w (vh w (.int .i64 (xa p l))):=by
 have I:l.length=n:=hr.len;obtain⟨R,E⟩:=sW (xa p l);rw[<-E];have H:=rz (E.trans (Am p l).symm);have HL:=rz I;clear E I;go_enter Tryz.func204,Tryz.ntmps204;go_wp2_with fail;go_loopw [8] (fun G wr=>∃j:Nat,G=.int .i64 j/\j<=n/\R=Fh p j (l.drop j)/\afv w wr) (fun G _=>n-(intOf G).toNat);case atStart=>exact⟨0,rfl,sb _,H.out,Below.refl _ _⟩
 case
  round=>
   obtain⟨j,rfl,af,hk,wI⟩:=hrel;have HK:=rz hk;clear hk H;by_cases Dx:j<n;·have Fg:j<l.length:=dv;have Rw:(j:Int)<(n:Int):=V;have YQ:=rM Fg;obtain⟨g,q,x,A1,n1,c1,a,z,c2,e,C,v,o,D,y,rfl,ad,hx,⟨a1,a2,a3,a4,a5,a6,a7,a8,a9,aa⟩,⟨K,L,M,N⟩,⟨Q,S,T,U⟩,W,Y,Z,a0⟩:=uY (hr.below wI O) Dx;have F:l[j]=x:=du;have ZJ:=hP x (F▸sj Fg) A1 n1 c1 a z c2 e C v o D y wr (.mk K L M N Q S T U W Y Z a0) wI;rw[F]at YQ;clear hx F K L M N;exact pN
   ·exact mz
def GP(f:Nat)(a3:∀args w,(callFunc f args).run Tryz.prog w=.ok (.enter f args) w)(lb:Array Value)(p:Fd->Bool)(l:List Fd)(w:World)(X:afu)(A:aft)(n c:Nat)(hr:xu w X A n l)(N:∀b,X b->b<w.heap.size)(a6:n<=100000000)(hP:∀x∈l,∀(A1:aft)(n1 c1:Nat)(z y:Int)(E:ByteArray)(a:aft)(C o:Nat)(e:aft)(D v:Nat)(w':World),DB w' X (#[.string ⟨x.name.toArray⟩,.slice A1 n1 c1,.int .i64 x.type,.bool x.has,.int .i64 z,.int .i64 y,.string E,.slice a C o,.slice e D v]).toList x->afv w w'->Calls Tryz.prog f (#[.agg #[.string ⟨x.name.toArray⟩,.slice A1 n1 c1,.int .i64 x.type,.bool x.has,.int .i64 z,.int .i64 y,.string E,.slice a C o,.slice e D v]]++lb) w' (vh w' (.bool (p x)))):Calls Tryz.prog 188 #[.slice A n c,.func (.func f) #[] lb] w (vh w (.int .i64 (xa p l))):=by
 have K:l.length=n:=hr.len;obtain⟨R,F⟩:=sW (xa p l);rw[<-F];have I:=rz (F.trans (Am p l).symm);have HL:=rz K;clear F K;go_enter Tryz.func188,Tryz.ntmps188;go_wp2_with fail;go_loopw [8] (fun H wr=>∃j:Nat,H=.int .i64 j/\j<=n/\R=Fh p j (l.drop j)/\afv w wr) (fun H _=>n-(intOf H).toNat);case atStart=>exact⟨0,rfl,sb _,I.out,Below.refl _ _⟩
 case
  round=>
   obtain⟨j,rfl,a5,hk,wI⟩:=hrel;have HK:=rz hk;clear hk I;by_cases Dx:j<n;·have Fg:j<l.length:=dv;have Rw:(j:Int)<(n:Int):=V;have YQ:=rM Fg;obtain⟨g,q,x,A1,n1,c1,z,y,E,a,C,o,e,D,v,rfl,a4,hx,⟨S,T,U,W,Y,Z,a0,a1,a2⟩,L,M,O,Q⟩:=zq (hr.below wI N) Dx;have G:l[j]=x:=du;have ZJ:=hP x (G▸sj Fg) A1 n1 c1 z y E a C o e D v wr (.mk L O Q M) wI;rw[G]at YQ;clear hx G L M;exact pN
   ·exact mz
def IF(f:Nat)(C:∀args w,(callFunc f args).run Tryz.prog w=.ok (.enter f args) w)(lb:Array Value)(p:Fd->Bool)(l:List Fd)(w:World)(X:afu)(A:aft)(n c:Nat)(G:xu w X A n l)(E:∀b,X b->b<w.heap.size)(F:n<=100000000)(D:∀x∈l,∀(A1:aft)(n1 c1:Nat)(q o:Int)(z:ByteArray)(a:aft)(v g:Nat)(e:aft)(y j:Nat)(w':World),DB w' X (#[.string ⟨x.name.toArray⟩,.slice A1 n1 c1,.int .i64 x.type,.bool x.has,.int .i64 q,.int .i64 o,.string z,.slice a v g,.slice e y j]).toList x->afv w w'->Calls Tryz.prog f (#[.agg #[.string ⟨x.name.toArray⟩,.slice A1 n1 c1,.int .i64 x.type,.bool x.has,.int .i64 q,.int .i64 o,.string z,.slice a v g,.slice e y j]]++lb) w' (vh w' (.bool (p x)))):Calls Tryz.prog 230 #[.slice A n c,.func (.func f) #[] lb] w (vh w (.bool (l.any p))):=by have h:=GP f C lb p l w X A n c G E F D;rw[<-Es];generalize xa p l=H at*;go_enter Tryz.func230,Tryz.ntmps230;exact dF
def yL(k:Int)(N F S e a B:Bool):Bool:= !(!sr k&&N)&& !(!decide (k=9)&&F)&& !(!decide (k=10)&&S)&& !(!decide (k=14)&&e)&& !(!(decide (k=11)||decide (k=12))&&a)&& !(!decide (k=13)&&B)
def CR(x:Nd):Bool:=yL x.kind (!decide (x.name=[])||decide (0<x.aliases.length)) (decide (0<x.fields.length)) (decide (0<x.symbols.length)||x.has|| !decide (x.sL=[])) (!decide (x.size=0)) (!decide (x.items=0)) (decide (0<x.rX.length))
def Q4(x:Nd)(A1:aft)(n1 c1:Nat)(I:aft)(G c2:Nat)(K:aft)(v N:Nat)(L:aft)(H O:Nat)(w:World)(bd:x.aliases.length=n1)(be:x.fields.length=G)(bj:x.symbols.length=v)(bk:x.rX.length=H):Calls Tryz.prog 124 #[nA x A1 n1 c1 I G c2 K v N L H O] w (vh w (.bool (CR x))):=by
 obtain⟨R,hR⟩:=sW (CR x);rw[<-hR];unfold CR at hR;rw[bd,be,bj,bk]at hR;have aU:=wm.new w x A1 n1 c1 I G c2 K v N L H O w.heap.size rfl;have aa:=(afw w).al rV (nC x A1 n1 c1 I G c2 K v N L H O);have br:=aa.l1;obtain⟨k,ad⟩:=sW x.kind;obtain⟨B3,a1⟩:∃B,B=(!decide (x.name=[])||decide (0<n1)):=⟨_,rfl⟩;obtain⟨B4,a2⟩:∃B,B=decide (0<G):=⟨_,rfl⟩;obtain⟨B5,a3⟩:∃B,B=(decide (0<v)||x.has|| !decide (x.sL=[])):=⟨_,rfl⟩;obtain⟨B6,a4⟩:∃B,B= !decide (x.size=0):=⟨_,rfl⟩;obtain⟨B7,a5⟩:∃B,B= !decide (x.items=0):=⟨_,rfl⟩;obtain⟨B8,a6⟩:∃B,B=decide (0<H):=⟨_,rfl⟩;rw[<-a1,<-a2,<-a3,<-a4,<-a5,<-a6]at hR;have HR:=rz hR;have A:=rz (And.intro a1 (And.intro a2 (And.intro a3 (And.intro a4 (And.intro a5 a6)))));clear hR a1 a2 a3 a4 a5 a6 bd be bj bk;go_enter Tryz.func124,Tryz.ntmps124;go_upto_region 1 with fail;generalize w.alloc _=w1 at*;go_cut [3,4,5,6,7,8] (fun bs bv bw bx bz bO Y=>bs=.bool B3/\bv=.bool B4/\bw=.bool B5/\bx=.bool B6/\bz=.bool B7/\bO=.bool B8/\afv w Y/\wm Y w.heap.size x A1 n1 c1 I G c2 K v N L H O/\w.heap.size<Y.heap.size);case
  first
   =>
    have c5:(!x.name.isEmpty)= !decide (x.name=[]):=by cases x.name<;>simp
    have a9:(x.size !=0)= !decide (x.size=0):=by by_cases h:x.size=0<;>simp[h]
    have a8:(x.items !=0)= !decide (x.items=0):=by by_cases h:x.items=0<;>simp[h]
    have a7:(!x.sL.isEmpty)= !decide (x.sL=[]):=by cases x.sL<;>simp
    refine sT [0,1,2,3,4,5,6,7,8,9,10,11,12,13,14,15,16,17,18,19,20,21,22,23,24,25,26,27,28,29,30,31,32,33,34,35,36,37,38,39,40,41] [] bm bm (by simp) bm (by intro _ _ d _ _ h;cases d<;>exact h) (fun wd ab tj=> ?_);have M:=aU.below ab br;have Bv:=aa.sY V ab;have z:w.heap.size<wd.heap.size:=V;have F:=rz M;obtain⟨⟨Z,b1,b2,b3,b4,b5,b6,b7,b8,b9⟩,b0⟩:=M;have a0:(RowKit.Hid (0<v)/\decide (0<v)=true)\/(RowKit.Hid (v=0)/\decide (0<v)=false):=by
     rcases Nat.eq_zero_or_pos v with h|h;·exact .inr ⟨rz h,by simp[h]⟩
     ·exact .inl ⟨rz h,by simp[h]⟩
    have bn:(RowKit.Hid (x.name=[])/\wd.cell? (rN w.heap.size 1)=some (.string ⟨#[]⟩))\/(∃c s,RowKit.Hid (x.name=c::s)/\wd.cell? (rN w.heap.size 1)=some (.string ⟨(c::s).toArray⟩)):=by
     cases h:x.name with
     |nil=>rw[h]at b1;exact .inl ⟨rz rfl,b1⟩
     |cons c s=>rw[h]at b1;exact .inr ⟨c,s,rz rfl,b1⟩
    have S:(RowKit.Hid (x.has=true)/\wd.cell? (rN w.heap.size 5)=some (.bool true))\/(RowKit.Hid (x.has=false)/\wd.cell? (rN w.heap.size 5)=some (.bool false)):=by
     cases h:x.has with
     |true=>rw[h]at b5;exact .inl ⟨rz rfl,b5⟩
     |false=>rw[h]at b5;exact .inr ⟨rz rfl,b5⟩
    have C:=rz a7;have E:=rz a9;have D:=rz a8;clear a7 a9 a8;rcases bn with⟨y,b1⟩|⟨c3,s,y,b1⟩
    ·rcases a0 with⟨q,T⟩|⟨q,T⟩
     ·rcases S with⟨a,b5⟩|⟨a,b5⟩
      ·refine ax ?_;refine sQ ?_;go_wp2_with fail;go_meet;obtain⟨e,g,j,l,n,o⟩:=A.out;refine⟨?_,?_,?_,?_,?_,?_,Bv,F.out,z⟩;·rw[e,y.out];simp
       ·simp[g]
       ·rw[j,a.out];have:=q.out;have:=C.out;simp[*]
       ·rw[l];have:=E.out;simp[*]
       ·rw[n];have:=D.out;simp[*]
       ·simp[o]
      ·refine ax ?_;refine sQ ?_;go_wp2_with fail;go_meet;obtain⟨e,g,j,l,n,o⟩:=A.out;refine⟨?_,?_,?_,?_,?_,?_,Bv,F.out,z⟩;·rw[e,y.out];simp
       ·simp[g]
       ·rw[j,a.out];have:=q.out;have:=C.out;simp[*]
       ·rw[l];have:=E.out;simp[*]
       ·rw[n];have:=D.out;simp[*]
       ·simp[o]
     ·rcases S with⟨a,b5⟩|⟨a,b5⟩
      ·refine ax ?_;refine sQ ?_;go_wp2_with fail;go_meet;obtain⟨e,g,j,l,n,o⟩:=A.out;refine⟨?_,?_,?_,?_,?_,?_,Bv,F.out,z⟩;·rw[e,y.out];simp
       ·simp[g]
       ·rw[j,a.out];have:=q.out;have:=C.out;simp[*]
       ·rw[l];have:=E.out;simp[*]
       ·rw[n];have:=D.out;simp[*]
       ·simp[o]
      ·refine ax ?_;refine sQ ?_;go_wp2_with fail;go_meet;obtain⟨e,g,j,l,n,o⟩:=A.out;refine⟨?_,?_,?_,?_,?_,?_,Bv,F.out,z⟩;·rw[e,y.out];simp
       ·simp[g]
       ·rw[j,a.out];have:=q.out;have:=C.out;simp[*]
       ·rw[l];have:=E.out;simp[*]
       ·rw[n];have:=D.out;simp[*]
       ·simp[o]
    ·rcases a0 with⟨q,T⟩|⟨q,T⟩
     ·rcases S with⟨a,b5⟩|⟨a,b5⟩
      ·refine ax ?_;refine sQ ?_;go_wp2_with fail;go_meet;obtain⟨e,g,j,l,n,o⟩:=A.out;refine⟨?_,?_,?_,?_,?_,?_,Bv,F.out,z⟩;·rw[e,y.out];simp
       ·simp[g]
       ·rw[j,a.out];have:=q.out;have:=C.out;simp[*]
       ·rw[l];have:=E.out;simp[*]
       ·rw[n];have:=D.out;simp[*]
       ·simp[o]
      ·refine ax ?_;refine sQ ?_;go_wp2_with fail;go_meet;obtain⟨e,g,j,l,n,o⟩:=A.out;refine⟨?_,?_,?_,?_,?_,?_,Bv,F.out,z⟩;·rw[e,y.out];simp
       ·simp[g]
       ·rw[j,a.out];have:=q.out;have:=C.out;simp[*]
       ·rw[l];have:=E.out;simp[*]
       ·rw[n];have:=D.out;simp[*]
       ·simp[o]
     ·rcases S with⟨a,b5⟩|⟨a,b5⟩
      ·refine ax ?_;refine sQ ?_;go_wp2_with fail;go_meet;obtain⟨e,g,j,l,n,o⟩:=A.out;refine⟨?_,?_,?_,?_,?_,?_,Bv,F.out,z⟩;·rw[e,y.out];simp
       ·simp[g]
       ·rw[j,a.out];have:=q.out;have:=C.out;simp[*]
       ·rw[l];have:=E.out;simp[*]
       ·rw[n];have:=D.out;simp[*]
       ·simp[o]
      ·refine ax ?_;refine sQ ?_;go_wp2_with fail;go_meet;obtain⟨e,g,j,l,n,o⟩:=A.out;refine⟨?_,?_,?_,?_,?_,?_,Bv,F.out,z⟩;·rw[e,y.out];simp
       ·simp[g]
       ·rw[j,a.out];have:=q.out;have:=C.out;simp[*]
       ·rw[l];have:=E.out;simp[*]
       ·rw[n];have:=D.out;simp[*]
       ·simp[o]
 case
  rest=>
   obtain⟨rfl,rfl,rfl,rfl,rfl,rfl,Bv,M,z⟩:=hcut;have Iz:=vg x.kind wc;obtain⟨⟨Z,b1,b2,b3,b4,b5,b6,b7,b8,b9⟩,b0⟩:=M;have c4:wc.cell? (rN w.heap.size 0)=some (.int .i64 k):=by rw[ad];exact Z
   have hR:=HR.out;rw[<-ad]at Iz hR;have HR:=rz hR;clear hR ad Z;have bp:k=9\/k=10\/k=14\/k=11\/k=12\/k=13\/(k≠9/\k≠10/\k≠14/\k≠11/\k≠12/\k≠13):=V;rcases bp with rfl|rfl|rfl|rfl|rfl|rfl|⟨X,U,W,an,ar,az⟩
   ·have hR:=HR.out;rw[show yL 9 B3 B4 B5 B6 B7 B8=(!B5&& !B6&& !B7&& !B8)by simp[yL,show sr 9=true from bH]]at hR;rw[show sr 9=true from bH]at Iz;have De:=rz hR;clear hR;have HR:=De;go_upto_region 2 with fail;go_wp2_with fail;refine tZ Iz ?_;go_upto_region 16 with fail;cases B5;·exact pU
    ·exact bB
   ·have hR:=HR.out;rw[show yL 10 B3 B4 B5 B6 B7 B8=(!B4&& !B6&& !B7&& !B8)by simp[yL,show sr 10=true from bH]]at hR;rw[show sr 10=true from bH]at Iz;have De:=rz hR;clear hR;have HR:=De;go_upto_region 2 with fail;go_wp2_with fail;refine tZ Iz ?_;go_upto_region 16 with fail;cases B4;·exact pU
    ·exact bB
   ·have hR:=HR.out;rw[show yL 14 B3 B4 B5 B6 B7 B8=(!B4&& !B5&& !B7&& !B8)by simp[yL,show sr 14=true from bH]]at hR;rw[show sr 14=true from bH]at Iz;have De:=rz hR;clear hR;have HR:=De;go_upto_region 2 with fail;go_wp2_with fail;refine tZ Iz ?_;go_upto_region 16 with fail;cases B4
    ·cases B5
     ·cases B7;·exact mV
      ·exact bB
     ·exact bB
    ·exact bB
   ·have hR:=HR.out;rw[show yL 11 B3 B4 B5 B6 B7 B8=(!B3&& !B4&& !B5&& !B6&& !B8)by simp[yL,show sr 11=false from bH]]at hR;rw[show sr 11=false from bH]at Iz;exact mQ
   ·have hR:=HR.out;rw[show yL 12 B3 B4 B5 B6 B7 B8=(!B3&& !B4&& !B5&& !B6&& !B8)by simp[yL,show sr 12=false from bH]]at hR;rw[show sr 12=false from bH]at Iz;exact mQ
   ·have hR:=HR.out;rw[show yL 13 B3 B4 B5 B6 B7 B8=(!B3&& !B4&& !B5&& !B6&& !B7)by simp[yL,show sr 13=false from bH]]at hR;rw[show sr 13=false from bH]at Iz;have De:=rz hR;clear hR;have HR:=De;go_upto_region 2 with fail;go_wp2_with fail;refine tZ Iz ?_;go_upto_region 16 with fail;cases B3
    ·cases B4
     ·cases B5
      ·cases B6
       ·cases B7;·obtain rfl:R=true:=dA;exact bD
        ·exact bB
       ·exact bB
      ·exact bB
     ·exact bB
    ·exact bB
   ·have af:sr k=false:=by unfold sr;simp[X,U,W]
    have hR:=HR.out;rw[show yL k B3 B4 B5 B6 B7 B8=(!B3&& !B4&& !B5&& !B6&& !B7&& !B8)by simp[yL,af,X,U,W,an,ar,az]]at hR;rw[af]at Iz;have cc:(k==9)=false:=rA.2 X;have c6:(k==10)=false:=rA.2 U;have cb:(k==14)=false:=rA.2 W;have c7:(k==11)=false:=rA.2 an;have c8:(k==12)=false:=rA.2 ar;have c9:(k==13)=false:=rA.2 az;have De:=rz hR;clear hR;have HR:=De;go_upto_region 2 with fail;go_wp2_with fail;refine tZ Iz ?_;go_upto_region 16 with fail;cases B3
    ·cases B4
     ·cases B5;·exact pU
      ·exact bB
     ·exact bB
    ·exact bB
def C2{w:World}{N:afu}{H n c:Nat}{A:aft}{l:List afs}(h:uK Nn 9 1 nS N w H A n c l):Row w (fun b=>H<=b/\b<w.heap.size) 1 A n (uL l):=by
 obtain⟨a,h1,e,g⟩:=h.row uz V;have e1:a=uL l:=by apply wH (by simp[uL,e]);intro i j o;have:a[i]=[sv l[i]]:=g i j V;rw[this];simp[uL]
 exact oR
def Cy(w:World)(r:Nat)(f:Fd)(A1:aft)(n1 c1:Nat)(k i:Int)(t:ByteArray)(B:aft)(m d:Nat)(B':aft)(m' d':Nat):Prop:=w.cell? (rN r 0)=some (.string ⟨f.name.toArray⟩)/\w.cell? (rN r 1)=some (.slice A1 n1 c1)/\w.cell? (rN r 2)=some (.int .i64 f.type)/\w.cell? (rN r 3)=some (.bool f.has)/\w.cell? (rN r 4)=some (.int .i64 k)/\w.cell? (rN r 5)=some (.int .i64 i)/\w.cell? (rN r 6)=some (.string t)/\w.cell? (rN r 7)=some (.slice B m d)/\w.cell? (rN r 8)=some (.slice B' m' d')
section
variable{w w':World}{r b:Nat}{f:Fd}{A1:aft}{n1 c1:Nat}{k i:Int}{t:ByteArray}{B:aft}{m d:Nat}{B':aft}{m' d':Nat}
def Cy.keep(h:Cy w r f A1 n1 c1 k i t B m d B' m' d')(a:∀j,w'.cell? (rN r j)=w.cell? (rN r j)):Cy w' r f A1 n1 c1 k i t B m d B' m' d':=by obtain⟨e,g,l,n,o,p,q,v,x⟩:=h;exact⟨(a 0).trans e,(a 1).trans g,(a 2).trans l,(a 3).trans n,(a 4).trans o,(a 5).trans p,(a 6).trans q,(a 7).trans v,(a 8).trans x⟩
def Cy.below(h:Cy w r f A1 n1 c1 k i t B m d B' m' d')(hb:Below b w w')(a:r<b):Cy w' r f A1 n1 c1 k i t B m d B' m' d':=h.keep fun _=>hb.cell a
def Cy.AA(h:Cy w r f A1 n1 c1 k i t B m d B' m' d')(hb:w'.heap[r]? =w.heap[r]?):Cy w' r f A1 n1 c1 k i t B m d B' m' d':=h.keep fun j=>by simp only[World.cell?,hb]
def Cy.new(w:World)(f:Fd)(A1:aft)(n1 c1:Nat)(k i:Int)(t:ByteArray)(B:aft)(m d:Nat)(B':aft)(m' d':Nat)(r:Nat)(a:r=w.heap.size):Cy (w.alloc (fC f A1 n1 c1 k i t B m d B' m' d')) r f A1 n1 c1 k i t B m d B' m' d':=by subst a;exact⟨bi,bi,bi,bi,bi,bi,bi,bi,bi⟩
end
def Cd(f:Fd):Bool:=Kd xj f.aliases&&(if f.has=true then ue f.sL 0 else BV f.sL J.zero)
def yO(l:List Fd):Bool:=l.all Cd&&(decide (l.length<=40)&&CX xj (l.map (·.name)))
structure SmF(f:Fd):Prop where
 name:f.name.length<=100000000
 alias:∀a∈f.aliases,a.length<=100000000
 sL:tS f.sL
def DU{B:Nat}{g:World}(ks:List afs)(hk:∀a∈ks,a.length<=100000000):∀x∈ks,∀w',Below B g w'->Calls Tryz.prog 129 #[.string ⟨x.toArray⟩] w' (vh w' (.bool (xj x))):=fun x hx w' _=>(Au x iJ w').mono (fun e j h=>⟨h.1,by rw[<-h.2];exact Below.refl _ _⟩)
def Oj(l:List Fd)(aa:∀f∈l,SmF f)(w:World)(X:afu)(A:aft)(n c:Nat)(a9:xu w X A n l)(hX:∀b,X b->b<w.heap.size)(c8:n<=100000000):Calls Tryz.prog 127 #[.slice A n c] w (vh w (.bool (yO l))):=by
 have T:=a9.len;obtain⟨R,v⟩:=sW (yO l);rw[<-v];unfold yO at v;rw[T]at v;obtain⟨b3,N⟩:=sW ((decide (n<=40)&&CX xj (l.map (·.name))));rw[<-N]at v;have b0:=rz v;have b1:=rz N;have HL:=rz T;clear v N T;have cb:uK Nn 9 1 nS nS w w.heap.size none 0 0 ([]:List afs):=uK.nil _ _ _ _ _ _ _;go_enter Tryz.func127,Tryz.ntmps127;go_wp2_with fail;go_loopw [3,8] (fun cv U wr=>∃(j:Nat)(L:aft)(M:Nat),U=.int .i64 j/\j<=n/\cv=.slice L j M/\uK Nn 9 1 nS nS wr w.heap.size L j M ((l.take j).map (·.name))/\R=((l.drop j).all Cd&&b3)/\afv w wr) (fun _ U _=>n-(intOf U).toNat);case atStart=>exact⟨0,none,0,rfl,sb _,rfl,by simpa using cb,b0.out,Below.refl _ _⟩
 case
  round=>
   obtain⟨j,L,M,rfl,d4,rfl,I,a8,wI⟩:=hrel;have Z:=rz a8;have ct:=wI.size;clear a8;by_cases Dx:j<n
   ·have c6:(j:Int)<(n:Int):=V;have Fg:j<l.length:=dv;obtain⟨g,p,f,E,K,G,k,i,t,B,m,d,B',m',d',rfl,d3,hx,⟨cy,cz,cA,cE,cR,cS,cW,cZ,d0⟩,O,bk,d2,c9⟩:=zq (a9.below wI hX) Dx;have af:l[j]=f:=du;have ab:=aa f (af▸sj Fg);have hd:=Z.out;rw[rM Fg,af,EO,Bool.and_assoc]at hd;have aU:=rz hd;have bO:=I.below uz ((afw wr).al rV (fC f E K G k i t B m d B' m' d'));have bp:=((Below.refl w.heap.size wr).al ct (fC f E K G k i t B m d B' m' d'));have W:=Cy.new wr f E K G k i t B m d B' m' d' wr.heap.size rfl;have cj:wr.heap.size<(wr.alloc (fC f E K G k i t B m d B' m' d')).heap.size:=bA;have ad:(l.take (j+1)).map (·.name)=(l.take j).map (·.name)++[f.name]:=kV;have b2:=rz ad;have a4:=I.block;clear ad hd;go_upto_region 5 with fail;generalize wr.alloc _=D at*;have c3:=bO.below uz ((afw D).al rV (.cells #[.string ⟨f.name.toArray⟩] 9));have bs:=bp.trans ((Below.refl w.heap.size D).al V (.cells #[.string ⟨f.name.toArray⟩] 9));have ar:=W.below ((afw D).al rV (.cells #[.string ⟨f.name.toArray⟩] 9)) cj;obtain⟨a0,_⟩:=W;go_upto_region 6 with(at_builtin;go_must(refine tn (z:=.string ⟨#[]⟩) (bytes:=16) (H1:=D.heap.size) (y:=f.name) (cs:=[sv f.name]) rfl ub yQ rfl V V uz rfl rfl c3 rfl V (fun b hb=>by have:=(a4 b hb).2.1;omega) bW bW (fun j u hu=>ew) V (by simp;omega) ?_);intro A7 c7 q c4 bv a6 d1);have Y:=ar.AA (a6.2 wr.heap.size (by simp;omega) (fun h=>by have:=(a4 _ h).2.1;omega));have S:=bs.trans bv;have ck:wr.heap.size<q.heap.size:=by have:=a6.1;exact lw
    have H:∀b,X b->b<q.heap.size:=fun b hb=>bC
    have bn:=Row.below O S hX;have a3:=bk.stay S hX;have bw:=wI.trans S;have c5:=b2.out▸c4;have br:=PJ 129 (enters_of GW bm rfl) xj f.aliases q X E K G bn H c9 (DU f.aliases ab.alias);have ch:=fun o(hb:afv q o)=>Df f.sL ab.sL o X k i t B m d B' m' d' (a3.stay hb H) (fun b h=>by have:=H b h;exact eT)
    have cr:=fun o(hb:afv q o)=>Tz _ f.sL J.zero rV o X k i t B m d B' m' d' 0 0 ⟨#[]⟩ none 0 0 none 0 0 (a3.stay hb H) (uq.zero _ _) (fun b h=>by have:=H b h;exact eT)
    have hd:=aU.out;unfold Cd at hd;have bj:=Y;obtain⟨a0,b4,b5,F,b6,b7,b8,b9,bd⟩:=Y;go_wp2_with fail;refine sG br fun o x=> ?_
    have cf:=ch o x;have cp:=cr o x;have az:=bj.below x ck;have Q:=bw.sY V x;have a7:=c5.below uz x;have d5:=x.size;obtain⟨a0,b4,b5,F,b6,b7,b8,b9,bd⟩:=az;cases a2:Kd xj f.aliases with
    |false=>
     rw[a2]at hd;obtain rfl:R=false:=by simpa using hd
     clear hd;cases C:f.has;all_goals rw[C]at F;go_wp2_with fail;go_ret;exact⟨rfl,Q⟩
    |true=>
     rw[a2,sk]at hd;cases C:f.has with
     |true=>
      rw[C]at F;rw[C,rG rfl]at hd;have HDD:=rz hd;clear hd;go_wp2_with fail;refine sG cf fun an e=> ?_
      have cx:=e.cl F V;have hi9:=a7.below uz e;have ZM:=Q.sY V e;cases hP:ue f.sL 0 with
      |false=>exact ge
      |true=>exact nK
     |false=>
      rw[C]at F;rw[C,rB bA]at hd;have HDD:=rz hd;clear hd;go_wp2_with fail;refine sG cp fun an e=> ?_
      have hi9:=a7.below uz e;have ZM:=Q.sY V e;cases hP:BV f.sL J.zero with
      |false=>exact ge
      |true=>exact nK
   ·obtain rfl:j=n:=V;have hd:=Z.out;rw[tD da,List.all_nil,sk,b1.out]at hd;have cc:l.take j=l:=gU;rw[cc]at I;have ci:=C2 I;have bx:=I.cap;have a5:=Bm 129 (enters_of GW bm rfl) xj (l.map (·.name)) wr _ L j M ci (fun b hb=>hb.2) c8 bx (DU _ (fun a O=>by obtain⟨f,bz,rfl⟩:=ti.1 O;exact(aa f bz).name));have c6:¬(j:Int)<(j:Int):=V;by_cases a1:j<=40
    ·have be:(j:Int)<=40:=V;rw[rY a1,sk]at hd;rw[<-hd]at a5;clear hd;go_wp2_with fail;refine sG a5 fun an e=> ?_
     go_wp2_with fail;go_ret;exact⟨rfl,wI.sY V e⟩
    ·have be:¬(j:Int)<=40:=V;rw[rI a1,tO]at hd;subst hd;exact cJ
def Bq(S:List Nd)(k:Int):Int:=match S[k.toNat]? with|some x=>x.kind|none=>0
def Eg(S:List Nd)(a k m:Int):Bool:=decide (m=k)||(!sr a&&decide (Bq S m=a))
def DX(S:List Nd)(all:List Int):Nat->List Int->Bool
 |_,[]=>true
 |j,k::r=> !decide (Bq S k=13)&& !((all.take j).any (Eg S (Bq S k) k))&&DX S all (j+1) r
def Db(S:List Nd)(l:List Int):Bool:=decide (1<=l.length)&&decide (l.length<=10)&&DX S l 0 l
def Rg(S:List Nd)(kd k m:Int)(b6 b7 b2:Nat)(A:aft)(n c:Nat)(w:World)(X:afu)(T:tJ w X A n S)(v:∀b,X b->b<w.heap.size)(E:w.cell? (rN b6 0)=some (.int .i64 k))(F:w.cell? (rN b7 0)=some (.int .i64 kd))(D:w.cell? (rN b2 0)=some (.slice A n c))(I:b6<w.heap.size)(K:b7<w.heap.size)(H:b2<w.heap.size)(ab:0<=m)(ad:m<n):Calls Tryz.prog 179 #[.int .i64 m,sg b6,sg b7,sg b2] w (vh w (.bool (Eg S kd k m))):=by
 obtain⟨j,rfl⟩:∃j:Nat,m=(j:Int):=⟨m.toNat,V⟩;have N:j<n:=V;have aa:(j:Int)<(n:Int):=V;have G:Bq S (j:Int)=match S[j]? with|some x=>x.kind|none=>0:=rfl
 obtain⟨R,a⟩:=sW (Eg S kd k (j:Int));rw[<-a];unfold Eg at a;rw[G]at a;have HR:=rz a;have O:=fun w1=>vg kd w1
 clear a;go_enter Tryz.func179,Tryz.ntmps179;go_upto_region 1 with fail;refine sT [0,1,2,3,4,5,6,7,8,9,10,11,12,13,14,15,16,17,18] [5] bm bm bA bm bt (fun wd hd tj=> ?_);obtain⟨q,p,x,A1,n1,c1,U,an,c2,W,ar,Z,Y,az,a0,rfl,L,y,⟨e0,a1,a2,a3,a4,a5,a6,a7,a8,a9⟩,_,_,_⟩:=uY (T.below hd v) N;have af:=v q L;have d6:=hd.cl E I;have d7:=hd.cl F K;have d2:=hd.cl D H;have z:=rz y;clear y;by_cases e:(j:Int)=k
 ·have M:((j:Int)==k)=true:=tl.2 e;obtain rfl:R=true:=by rw[HR.out,rY e];rfl
  refine ay ?_;refine tc rfl rfl w.heap.size rV (fun C g=> ?_);go_wp2_with fail;refine g _ _ xn ?_;refine ay ?_;exact eL
 ·have M:((j:Int)==k)=false:=rA.2 e;have a:=HR.out;rw[rI e,uA,z.out]at a;simp only at a;have l:=rz a;clear a;refine ay ?_;refine tc rfl rfl w.heap.size rV (fun C g=> ?_);go_wp2_with fail;refine tZ (O _) ?_;go_wp2_with fail;refine g _ _ xn ?_;cases o:sr kd with
  |true=>have a:=l.out;rw[o]at a;obtain rfl:R=false:=a;refine ay ?_;exact eL
  |false=>have a:=l.out;rw[o,xT,sk]at a;have HR:=rz a;clear a;refine ay ?_;exact iu
def SI(S:List Nd)(l:List Int)(root:Int)(w:World)(X:afu)(A:aft)(n c:Nat)(A':aft)(m d:Nat)(W:tJ w X A n S)(Y:Row w X 1 A' m (xZ l))(hX:∀b,X b->b<w.heap.size)(c5:n<=100000000)(bz:m<=100000000)(c4:m<=d)(Q:∀k∈l,0<=k/\k<(n:Int)):Calls Tryz.prog 130 #[.agg #[.slice A n c,.int .i64 root],.slice A' m d] w (vh w (.bool (Db S l))):=by
 have I:l.length=m:=by have:=Y.len;exact fQ
 obtain⟨R,o⟩:=sW (Db S l);rw[<-o];unfold Db at o;rw[I]at o;have N:=rz o;have HL:=rz I;clear o I;have F:=(afw w).al rV (sC A n c root);have b3:(w.alloc (sC A n c root)).cell? (rN w.heap.size 0)=some (.slice A n c):=bi;have ar:=F.l1;go_enter Tryz.func130,Tryz.ntmps130;go_upto_region 1 with fail;generalize w.alloc _=w1 at*;by_cases a6:m<1\/10<m
 ·obtain rfl:R=false:=by
   rw[N.out];rcases a6 with h|h;·rw[rI V];rfl
   ·rw[rI (p:=m<=10) V];simp
  rcases(show(m:Int)<1\/(¬(m:Int)<1/\(10:Int)<(m:Int))from V)with h|⟨h,bp⟩;all_goals go_wp2_with fail;go_ret;exact⟨rfl,F⟩
 ·have bO:¬(m:Int)<1:=V;have c3:¬(10:Int)<(m:Int):=V;have o:=N.out;rw[rY (by omega:1<=m),rY (by omega:m<=10)]at o;simp only[sk]at o;have a2:=rz o;clear o;go_wp2_with fail;go_loopw [18] (fun L wr=>∃j:Nat,L=.int .i64 j/\j<=m/\R=DX S l j (l.drop j)/\afv w wr/\wr.cell? (rN w.heap.size 0)=some (.slice A n c)/\w.heap.size<wr.heap.size) (fun L _=>m-(intOf L).toNat);case atStart=>exact⟨0,rfl,sb _,a2.out,F,b3,ar⟩
  case
   round=>
    obtain⟨j,rfl,aa,U,wI,b4,az⟩:=hrel;have M:=rz U;clear U;by_cases ab:j<m
    ·have bs:(j:Int)<(m:Int):=V;have H:j<l.length:=by rw[HL.out];exact ab
     have Z:=Row.below Y wI hX;obtain⟨g,q,rfl,a8,a7⟩:=Z.pos V;have ad:=(a7 j [.int .i64 l[j]] (by simp[xZ,H])).2 0 _ rfl;rw[tL,sE]at ad;have a0:=Ic Z aa;have a3:(xZ l).take j=xZ (l.take j):=by simp[xZ]
     rw[a3]at a0;have a:=M.out;rw[rM H,DX]at a;have bw:=Q l[j] (sj H);have T:∀y∈l.take j,0<=y/\y<(n:Int):=fun y E=>Q y (List.mem_of_mem_take E)
     generalize l[j]=k at*;obtain⟨k,rfl⟩:∃b1:Nat,k=(b1:Int):=⟨k.toNat,V⟩;have af:k<n:=V;have bx:(k:Int)<(n:Int):=V;obtain⟨K,b2,x,A1,n1,c1,b9,c9,c2,bd,cb,bj,be,cc,bk,rfl,a9,b0,⟨bn,_,_,_,_,_,_,_,_,_⟩,_,_,_⟩:=uY (W.below wI hX) af;have c6:K<wr.heap.size:=by have:=hX K a9;exact j8
     have br:g<wr.heap.size:=by have:=hX g a8;exact j8
     have a5:Bq S (k:Int)=x.kind:=by unfold Bq;rw[su,b0]
     rw[a5]at a;have z:=rz a;have G:=((afw wr).al rV (.cells #[.int .i64 (k:Int)] 3)).al (sn rV bA) (.cells #[.int .i64 x.kind] 3);have b5:((wr.alloc (.cells #[.int .i64 (k:Int)] 3)).alloc (.cells #[.int .i64 x.kind] 3)).cell? (rN wr.heap.size 0)=some (.int .i64 (k:Int)):=bi;have b6:((wr.alloc (.cells #[.int .i64 (k:Int)] 3)).alloc (.cells #[.int .i64 x.kind] 3)).cell? (rN (wr.heap.size+1) 0)=some (.int .i64 x.kind):=bi;have c7:((wr.alloc (.cells #[.int .i64 (k:Int)] 3)).alloc (.cells #[.int .i64 x.kind] 3)).heap.size=wr.heap.size+2:=bA;clear a;go_upto_region 7 with fail;generalize(wr.alloc _).alloc _=b7 at*;have Ac:=wI.sY V G;have a1:=G.cl b4 az;have an:=W.below Ac hX;have aU:=Row.below a0 G bq;have D:=Bd 179 (enters_of Tryz.func179 bm rfl) #[sg wr.heap.size,sg (wr.heap.size+1),sg w.heap.size] (Eg S x.kind (k:Int)) (l.take j) b7 X (some ⟨g,q,none⟩) j d aU bq V (fun y E w' Iw=>by refine Rg S x.kind (k:Int) y wr.heap.size (wr.heap.size+1) w.heap.size (some ⟨K,b2,none⟩) n c w' X (an.below Iw bq) (fun b hb=>pi) ((Iw.cell bl).trans b5) ((Iw.cell bl).trans b6) ((Iw.cell bl).trans a1) dt dt dt (T y E).1 (T y E).2);by_cases C:x.kind=13
     ·have a4:(x.kind==13)=true:=tl.2 C;obtain rfl:R=false:=by rw[z.out,rY C];rfl
      exact cK
     ·have a4:(x.kind==13)=false:=rA.2 C;have a:=z.out;rw[rI C,xT,sk]at a;cases O:(l.take j).any (Eg S x.kind (k:Int))with
      |true=>
       rw[O]at a D;have e:R=false:=by rw[a];rfl
       clear a;subst e;go_wp2_with fail;refine sG D fun b8 v=> ?_
       go_wp2_with fail;go_ret;exact⟨rfl,Ac.sY V v⟩
      |false=>
       rw[O]at a D;rw[xT,sk]at a;have z:=rz a;clear a;go_wp2_with fail;refine sG D fun b8 v=> ?_
       have c8:=v.size;go_wp2_with fail;refine⟨⟨j+1,bA,V,z.out,Ac.sY V v,(v.cell bl).trans a1,V⟩,?_⟩;exact bN
    ·obtain rfl:j=m:=V;have a:=M.out;rw[tD da,DX]at a;subst a;have bv:¬(j:Int)<(j:Int):=V;exact cJ
structure PH(x:Nd):Prop where
 name:x.name.length<=100000000
 alias:∀a∈x.aliases,a.length<=100000000
 fields:∀f∈x.fields,SmF f
 symbols:∀a∈x.symbols,a.length<=100000000
 sL:x.sL.length<=100000000
def Gy(x:Nd):Bool:= !sr x.kind||(vL x.name&&(decide (wJ x.name=0)&&Kd vL x.aliases))
def Mf(x:Nd):Bool:=(decide (x.has=x.symbols.contains x.sL)&&(x.has||decide (x.sL=[])))&&(decide (1<=x.symbols.length)&&(decide (x.symbols.length<=40)&&CX xj x.symbols))
def kindOk(S:List Nd)(x:Nd):Bool:=if x.kind=9 then yO x.fields else if x.kind=10 then Mf x else if x.kind=14 then decide (0<=x.size)&&decide (x.size<=1000)else if x.kind=13 then Db S x.rX else true
def vM(S:List Nd)(x:Nd):Bool:=(decide (1<=x.kind)&&decide (x.kind<=14))&&(CR x&&(Gy x&&kindOk S x))
def Ht{B:Nat}{e:World}(j:uI e)(g:e.heap.size=B)(ks:List afs)(hk:∀a∈ks,a.length<=100000000):∀x∈ks,∀w',Below B e w'->Calls Tryz.prog 46 #[.string ⟨x.toArray⟩] w' (vh w' (.bool (vL x))):=fun x hx w' hb=>Bw x iJ w' (j.below (by subst g;exact hb))
def U3(S:List Nd)(root:Int)(x:Nd)(w:World)(X:afu)(A:aft)(n c:Nat)(A1:aft)(n1 c1:Nat)(q:aft)(o c2:Nat)(v:aft)(a l:Nat)(y:aft)(j z:Nat)(d9:tJ w X A n S)(c7:Row w X 1 A1 n1 (uL x.aliases))(c8:xu w X q o x.fields)(c9:Row w X 1 v a (uL x.symbols))(cc:Row w X 1 y j (xZ x.rX))(cE:a<=l)(cR:j<=z)(d4:n1<=100000000)(d5:o<=100000000)(d6:a<=100000000)(d7:j<=100000000)(d3:n<=100000000)(F:∀b,X b->b<w.heap.size)(ct:uI w)(a5:PH x)(c5:x.kind=13->∀k∈x.rX,0<=k/\k<(n:Int)):Calls Tryz.prog 63 #[.agg #[.slice A n c,.int .i64 root],nA x A1 n1 c1 q o c2 v a l y j z] w (vh w (.bool (vM S x))):=by
 have l1:x.aliases.length=n1:=by have:=c7.len;exact db
 have di:=c8.len;have aU:x.symbols.length=a:=by have:=c9.len;exact db
 have dj:x.rX.length=j:=by have:=cc.len;exact fQ
 have cA:=fun w'=>Q4 x A1 n1 c1 q o c2 v a l y j z w' l1 di aU dj
 have cj:=rz aU;clear aU;obtain⟨R,hR⟩:=sW (vM S x);rw[<-hR];unfold vM at hR;obtain⟨E,a2⟩:∃C,C=Gy x:=⟨_,rfl⟩;obtain⟨e6,a3⟩:∃C,C=kindOk S x:=⟨_,rfl⟩;rw[<-a2,<-a3]at hR;unfold Gy at a2;unfold kindOk at a3;have HR:=rz hR;have bd:=rz a2;have cf:=rz a3;have ci:=rz c5;have sK:=((afw w).al rV (sC A n c root)).al bA (nC x A1 n1 c1 q o c2 v a l y j z);have dz:((w.alloc (sC A n c root)).alloc (nC x A1 n1 c1 q o c2 v a l y j z)).cell? (rN w.heap.size 0)=some (.slice A n c):=bi;have e0:((w.alloc (sC A n c root)).alloc (nC x A1 n1 c1 q o c2 v a l y j z)).cell? (rN w.heap.size 1)=some (.int .i64 root):=bi;have bk:=wm.new (w.alloc (sC A n c root)) x A1 n1 c1 q o c2 v a l y j z (w.heap.size+1) bA;have ea:=sK.s2;clear hR a2 a3 c5;go_enter Tryz.func63,Tryz.ntmps63;go_upto_region 1 with fail;generalize(w.alloc _).alloc _=w1 at*;have cv:=bk;obtain⟨⟨I,K,L,M,b4,b5,b6,N,O,T⟩,U⟩:=bk;by_cases e8:x.kind<1
 ·obtain rfl:R=false:=by rw[HR.out,rI V];rfl
  exact bL
 by_cases e9:14<x.kind
 ·obtain rfl:R=false:=by rw[HR.out,rI (p:=x.kind<=14) V];simp
  exact bL
 have hR:=HR.out;rw[rY (by omega:1<=x.kind),rY (by omega:x.kind<=14),Bool.and_self,sk]at hR;have be:=rz hR;clear hR;go_wp2_with fail;refine sG (cA w1) fun D Z=> ?_
 have bj:=wm.below cv Z V;have e4:=Z.cl dz V;have e5:=Z.cl e0 V;have Ac:=sK.sY V Z;have eb:=Z.size;cases c3:CR x with
 |false=>
  obtain rfl:R=false:=by rw[be.out,c3];rfl
  exact cK
 |true=>
  have hR:=be.out;rw[c3,sk]at hR;have HR:=rz hR;clear hR;go_upto_region 3 with fail;go_cut [38] (fun e2 b1=>e2=.bool (!E)/\afv D b1);case
   first
    =>
     obtain⟨⟨I,K,L,M,b4,b5,b6,N,O,T⟩,U⟩:=bj;have aa:=ct.below Ac;have d8:=vg x.kind D;have cZ:=Bw x.name (by have:=a5.name;omega) D aa;have d1:=fun w3(hb:afv D w3)=>D7 x.name w3 (aa.below hb)
     have cy:=fun w3(hb:afv D w3)=>PJ 46 (enters_of WC bm rfl) vL x.aliases w3 X A1 n1 c1 (Row.below c7 (Ac.sY V hb) F) (fun b h=>by have:=F b h;have:=hb.size;omega) d4 (Ht (aa.below hb) rfl x.aliases a5.alias)
     go_wp2_with fail;refine tZ d8 ?_;cases bx:sr x.kind with
     |false=>
      have e:E=true:=by rw[bd.out,bx];rfl
      have E3:=rz e;clear e;go_wp2_with fail;go_meet;exact⟨ke,Below.refl _ _⟩
     |true=>
      have g:=bd.out;rw[bx,tM,uA]at g;have b7:=rz g;clear g;go_wp2_with fail;refine sG cZ fun w3 vb=> ?_
      have ck:=wm.below ⟨⟨I,K,L,M,b4,b5,b6,N,O,T⟩,U⟩ vb V;have d2:=d1 w3 vb;have cx:=cy w3 vb;have ZL:=Ac.sY V vb;obtain⟨⟨I,K,L,M,b4,b5,b6,N,O,T⟩,U⟩:=ck;cases bw:vL x.name with
      |false=>
       have e:E=false:=by rw[b7.out,bw];rfl
       have E3:=rz e;clear e;go_wp2_with fail;go_meet;exact⟨ke,vb⟩
      |true=>
       have g:=b7.out;rw[bw,sk]at g;have b8:=rz g;clear g;go_wp2_with fail;refine tZ d2 ?_;by_cases a6:wJ x.name=0
       ·have g:=b8.out;rw[rY a6,sk]at g;have b9:=rz g;have df:((wJ x.name:Nat):Int)=0:=V;rw[df];clear g;go_wp2_with fail;refine sG cx fun b0 bO=> ?_
        cases bv:Kd vL x.aliases with
        |false=>
         have e:E=false:=by rw[b9.out,bv]
         have E3:=rz e;clear e;go_wp2_with fail;go_meet;exact⟨ke,vb.sY V bO⟩
        |true=>
         have e:E=true:=by rw[b9.out,bv]
         have E3:=rz e;clear e;go_wp2_with fail;go_meet;exact⟨ke,vb.sY V bO⟩
       ·have e:E=false:=by rw[b8.out,rI a6];rfl
        have E3:=rz e;have ed:(((wJ x.name:Nat):Int)==0)=false:=by simpa using a6
        have ef:(((wJ x.name:Nat):Int) !=0)=true:=by simpa using a6
        clear e;go_wp2_with fail;go_meet;exact⟨ke,vb⟩
  case
   rest=>
    obtain⟨rfl,G⟩:=hcut;cases E with
    |false=>obtain rfl:R=false:=dA;go_wp2_with fail;go_ret;exact⟨rfl,Ac.sY V G⟩
    |true=>
     simp only[tM];have hR:=HR.out;rw[sk,cf.out]at hR;have bn:=wm.below bj G V;have eg:=G.cl e4 V;have eh:=G.cl e5 V;have Ot:=Ac.sY V G;have Y:∀b,X b->b<wc.heap.size:=fun b hb=>by have:=F b hb;have:=G.size;omega
     have dd:w.heap.size+1<wc.heap.size:=by have:=G.size;omega
     have bz:=bn;obtain⟨⟨I,K,L,M,b4,b5,b6,N,O,T⟩,U⟩:=bn;by_cases a9:x.kind=9;·rw[rG a9]at hR;have dx:(x.kind==9)=true:=tl.2 a9;have FO:=Oj x.fields a5.fields wc X q o c2 (c8.below Ot F) Y d5;exact nV
     have dx:(x.kind==9)=false:=rA.2 a9;rw[rB a9]at hR;by_cases a7:x.kind=10
     ·rw[rG a7]at hR;have dp:(x.kind==10)=true:=tl.2 a7;unfold Mf at hR;rw[cj.out]at hR;have cb:=Row.below c9 Ot F;obtain⟨b2,af⟩:=sW (x.symbols.contains x.sL);obtain⟨b3,a4⟩:=sW ((decide (x.has=x.symbols.contains x.sL)&&(x.has||decide (x.sL=[]))));rw[<-a4]at hR;rw[<-af]at a4;have HR:=rz hR;have W:=rz a4;have ch:=rz af;clear hR a4 af;have cS:=fun b0(hb:afv wc b0)=>Bm 129 (enters_of GW bm rfl) xj x.symbols b0 X v a l (Row.below cb hb Y) (fun b h=>by have:=Y b h;exact eT) d6 cE (DU x.symbols a5.symbols)
      go_upto_region 9 with fail;go_cut [65] (fun e3 b1=>e3=.bool (!b3)/\afv wc b1);case
       first
        =>
         refine sT [0,1,2,3,4,5,6,7,8,9,10,11,12,13,14,15,16,17] [6] bm bm (by simp) bm (by intro _ _ d _ _ h;cases d<;>exact h) (fun wd az tj=> ?_);have cp:=bz.below az dd;have e1:=Row.below cb az Y;have ar:=xJ (c:=l) x.sL wd e1 V;rw[<-ch.out]at ar;have a0:=az;have ec:w.heap.size+1<wd.heap.size:=V;obtain⟨⟨I,K,L,M,b4,b5,b6,N,O,T⟩,U⟩:=cp;have d0:(RowKit.Hid (x.has=true)/\wd.cell? (rN (w.heap.size+1) 5)=some (.bool true))\/(RowKit.Hid (x.has=false)/\wd.cell? (rN (w.heap.size+1) 5)=some (.bool false)):=by
          cases h:x.has with
          |true=>rw[h]at b5;exact .inl ⟨rz rfl,b5⟩
          |false=>rw[h]at b5;exact .inr ⟨rz rfl,b5⟩
         rcases d0 with⟨H,b5⟩|⟨H,b5⟩
         ·refine aA ?_;refine tc rfl rfl (w.heap.size+2) V (fun cr an=> ?_);go_wp2_with fail;refine tZ ar ?_;go_wp2_with fail;refine an _ _ xn ?_;cases b2;·refine aA ?_;refine sQ ?_;go_wp2_with fail;go_meet;exact⟨by rw[W.out,H.out];rfl,a0⟩
          ·refine aA ?_;refine sQ ?_;go_wp2_with fail;go_meet;exact⟨by rw[W.out,H.out];rfl,a0⟩
         ·have cW:(RowKit.Hid (x.sL=[])/\wd.cell? (rN (w.heap.size+1) 6)=some (.string ⟨#[]⟩))\/(∃c s,RowKit.Hid (x.sL=c::s)/\wd.cell? (rN (w.heap.size+1) 6)=some (.string ⟨(c::s).toArray⟩)):=by
           cases h:x.sL with
           |nil=>rw[h]at b6;exact .inl ⟨rz rfl,b6⟩
           |cons c s=>rw[h]at b6;exact .inr ⟨c,s,rz rfl,b6⟩
          refine aA ?_;refine tc rfl rfl (w.heap.size+2) V (fun cr an=> ?_);go_wp2_with fail;refine tZ ar ?_;go_wp2_with fail;refine an _ _ xn ?_;cases b2
          ·rcases cW with⟨ab,b6⟩|⟨e7,s,ab,b6⟩;·refine aA ?_;refine sQ ?_;go_wp2_with fail;go_meet;exact⟨by rw[W.out,H.out,ab.out];rfl,a0⟩
           ·refine aA ?_;refine sQ ?_;go_wp2_with fail;go_meet;exact⟨by rw[W.out,H.out,ab.out];rfl,a0⟩
          ·refine aA ?_;refine sQ ?_;go_wp2_with fail;go_meet;exact⟨by rw[W.out,H.out];rfl,a0⟩
      case
       rest=>
        obtain⟨rfl,vb⟩:=hcut;have ZL:=Ot.sY V vb;cases b3 with
        |false=>obtain rfl:R=false:=dA;exact jH
        |true=>
         simp only[tM];have c4:=cS _ vb;obtain⟨⟨I,K,L,M,b4,b5,b6,N,O,T⟩,U⟩:=bz.below vb V;have hR:=HR.out;rw[sk]at hR;have ad:=rz hR;clear hR;by_cases bp:1<=a
         ·by_cases bs:a<=40
          ·have br:(1:Int)<=(a:Int):=V;have cs:(a:Int)<=40:=V;have hR:=ad.out;rw[rY bp,rY bs,sk,sk]at hR;rw[<-hR]at c4;clear hR;go_wp2_with fail;refine sG c4 fun ei cz=> ?_
           go_wp2_with fail;go_ret;exact⟨rfl,ZL.sY V cz⟩
          ·have br:(1:Int)<=(a:Int):=V;have cs:¬(a:Int)<=40:=V;obtain rfl:R=false:=by rw[ad.out,rI bs];simp
           exact jH
         ·have br:¬(1:Int)<=(a:Int):=V;obtain rfl:R=false:=by rw[ad.out,rI bp];simp
          exact jH
     have dp:(x.kind==10)=false:=rA.2 a7;rw[rB a7]at hR;by_cases a8:x.kind=14
     ·rw[rG a8]at hR;have ds:(x.kind==14)=true:=tl.2 a8;have HR:=rz hR;clear hR;by_cases c6:0<=x.size
      ·obtain rfl:R=decide (x.size<=1000):=by rw[HR.out,rY c6];rfl
       exact jI
      ·obtain rfl:R=false:=by rw[HR.out,rI c6];rfl
       exact jI
     have ds:(x.kind==14)=false:=rA.2 a8;rw[rB a8]at hR;by_cases a1:x.kind=13;·rw[rG a1]at hR;have dr:(x.kind==13)=true:=tl.2 a1;have FO:=SI S x.rX root wc X A n c y j z (d9.below Ot F) (Row.below cc Ot F) Y d3 d7 cR (ci.out a1);exact nV
     ·rw[rB a1]at hR;subst hR;have dr:(x.kind==13)=false:=rA.2 a1;exact jI
def EN(a:Nat->List Int->Int×List Int):List Fd->Int->List Int->Int×List Int
 | [],n,kn=>(n,kn)
 |f::fs,n,kn=>EN a fs (min (n+(a f.type.toNat kn).1) 1001) (a f.type.toNat kn).2
def Nj(x:Nd):List Fd:=if x.kind=9 then x.fields else []
def z6(S:List Nd):Nat->Nat->List Int->Int×List Int
 |0,_,kn=>(0,kn)
 |f+1,a,kn=>
 match kn[a]?,S[a]? with
 |some v,some x=>if v<0 then(1001,kn)else if 0<v then(v,kn)else((EN (z6 S f) (Nj x) 1 (kn.set a (-1))).1,(EN (z6 S f) (Nj x) 1 (kn.set a (-1))).2.set a (EN (z6 S f) (Nj x) 1 (kn.set a (-1))).1)
 |_,_=>(0,kn)
def IZ(kn:List Int):Prop:=∀v∈kn, -1<=v/\v<=1001
def DF(kn:List Int):Nat:=kn.count 0
structure Zm(kn:List Int)(r:Int×List Int):Prop where
 Ms:IZ r.2
 len:r.2.length=kn.length
 DF:DF r.2<=DF kn
 lo:0<=r.1
 hi:r.1<=1001
section
variable{w w':World}{g b B:Nat}(S:List Nd)(root:Int){kn:List Int}{a:Nat}{v:Int}
def IZ.set(h:IZ kn)(a:Nat){v:Int}(g: -1<=v)(j:v<=1001):IZ (kn.set a v):=by
 intro u e;rcases List.mem_or_eq_of_mem_set e with e|rfl;·exact h u e
 ·exact⟨g,j⟩
def YA(e:v≠0):DF (kn.set a v)<=DF kn:=by
 unfold DF;by_cases h:a<kn.length;·rw[List.count_set h];have:(v==0)=false:=rA.2 e;rw[this];simp
 ·rw[List.set_eq_of_length_le V];exact jF
def EF(h:kn[a]? =some 0):DF (kn.set a (-1))<DF kn:=by obtain⟨e,g⟩:=rQ.1 h;unfold DF;rw[List.count_set e,g];have:0<kn.count 0:=List.count_pos_iff.2 (g▸sj e);simp;omega
def Wr{e:Nat->List Int->Int×List Int}(o:∀a kn,IZ kn->Zm kn (e a kn)):∀(fs:List Fd)(n:Int)(kn:List Int),IZ kn->1<=n->n<=1001->Zm kn (EN e fs n kn)/\1<=(EN e fs n kn).1
 | [],n,kn,g,j,l=>⟨⟨g,rfl,rZ _,by simp only[EN];omega,l⟩,j⟩
 |f::fs,n,kn,g,j,l=>by have h:=o f.type.toNat kn g;have:=h.lo;have:=h.hi;obtain⟨r,p⟩:=Wr o fs (min (n+(e f.type.toNat kn).1) 1001) (e f.type.toNat kn).2 h.Ms V V;exact⟨⟨r.Ms,r.len.trans h.len,sn r.DF h.DF,r.lo,r.hi⟩,p⟩
def FH:∀(f a:Nat)(kn:List Int),IZ kn->Zm kn (z6 S f a kn):=by
 intro f;induction f with
 |zero=>intro a kn e;exact⟨e,rfl,rZ _,by simp[z6],by simp[z6]⟩
 |succ f l=>
  intro a kn e;unfold z6;split
  ·rename_i v x g n;split;·exact⟨e,rfl,rZ _,bA,bA⟩
   ·split;·exact⟨e,rfl,rZ _,bl,(e v (rU g)).2⟩
    ·have j:v=0:=V;subst j;obtain⟨r,o⟩:=Wr (fun a kn e=>l a kn e) (Nj x) 1 (kn.set a (-1)) (e.set a V V) V V;have:=EF g;refine⟨r.Ms.set a V r.hi,by simp only[uB];rw[r.len,uB],?_,bl,r.hi⟩;have:=YA (kn:=(EN (z6 S f) (Nj x) 1 (kn.set a (-1))).2) (a:=a) (v:=(EN (z6 S f) (Nj x) 1 (kn.set a (-1))).1) V;have:=r.DF;exact bl
  ·exact⟨e,rfl,rZ _,bA,bA⟩
def JU(w:World)(g:Nat)(kn:List Int):Prop:=∀i v,kn[i]? =some v->w.cell? (rN g i)=some (.int .i64 v)/\w.frozen? (rN g i)=false
def JU.off(h:JU w g kn)(hb:sa b B w w')(a:g<B)(e:g≠b):JU w' g kn:=fun i v j=>⟨(hb.cell a e).trans (h i v j).1,(hb.frozen a e).trans (h i v j).2⟩
def JU.below(h:JU w g kn)(hb:Below B w w')(a:g<B):JU w' g kn:=fun i v e=>⟨(hb.cell a).trans (h i v e).1,(hb.frozen a).trans (h i v e).2⟩
def JU.set(h:JU w g kn){a:Nat}(l:a<kn.length)(v:Int):JU (w.setCell ⟨g,a,none⟩ (.int .i64 v)) g (kn.set a v):=by
 intro i u j;rw[vH];rw[uG]at j;split at j;·rename_i e;subst e;(try rw[rG l]at j);injection j with j;subst j;have:=h a kn[a] (rD l);exact ij
 ·rename_i e;have:=h i u j;exact gt
def Ir(g:Nat)(A:aft)(n c:Nat)(X:afu)(f4:n<=100000000)(cZ:∀x∈S,x.kind=9->∀f∈x.fields,0<=f.type/\f.type<(n:Int)):∀(f a:Nat)(kn:List Int)(w:World),DF kn<f->IZ kn->kn.length=n->a<n->tJ w X A n S->JU w g kn->g<w.heap.size->(∀b,X b->b<w.heap.size/\b≠g)->Calls Tryz.prog 64 #[.agg #[.slice A n c,.int .i64 root],.int .i64 (a:Int),.slice (some ⟨g,0,none⟩) n n] w fun e w'=>e=.returned (.int .i64 (z6 S f a kn).1)/\JU w' g (z6 S f a kn).2/\sa g w.heap.size w w':=by
 intro f;induction f with
 |zero=>intro a kn w h;omega
 |succ f di=>
  intro a kn w fi I ab L ad bs a7 hX;have cf:=rz ad.len;have b2:=rz ab;obtain⟨v,M⟩:∃v,kn[a]? =some v:=⟨_,rD (by rw[ab];exact L)⟩;obtain⟨x,an⟩:∃x,S[a]? =some x:=⟨_,rD (by rw[cf.out];exact L)⟩;obtain⟨R,E⟩:=sW (z6 S (f+1) a kn);rw[<-E];simp only[z6,M,an]at E;have Y:=rz E;have ff:=I v (rU M);have et:(a:Int)<(n:Int):=V;obtain⟨c0,fz⟩:=bs a v M;have F:=(afw w).al rV (sC A n c root);have ft:(w.alloc (sC A n c root)).cell? (rN w.heap.size 0)=some (.slice A n c):=bi;have fx:(w.alloc (sC A n c root)).cell? (rN w.heap.size 1)=some (.int .i64 root):=bi;have d8:=F.l1;have c1:=F.cl c0 a7;have es:=(F.frozen (p:=rN g a) a7).trans fz;have aa:=bs.below F a7;have d5:=ad.below F (fun b hb=>(hX b hb).1);have cj:=rz M;have b4:=rz an;clear E M ab an ad;go_enter Tryz.func64,Tryz.ntmps64;go_upto_region 1 with fail;generalize w.alloc _=w1 at*;by_cases a3:v<0
  ·obtain rfl:R=(1001,kn):=by rw[Y.out,rG a3]
   go_wp2_with fail;go_ret;exact⟨rfl,aa,sa.of F⟩
  by_cases be:0<v
  ·obtain rfl:R=(v,kn):=by rw[Y.out,rB a3,rG be]
   go_wp2_with fail;go_ret;exact⟨rfl,aa,sa.of F⟩
  obtain rfl:v=0:=V;have E:=Y.out;rw[rB a3,rB be]at E;have Z:=rz E;have fj:=EF cj.out;clear E;go_upto_region 6 with fail;have bz:¬w.heap.size=g:=V;have f6:¬g=w.heap.size:=V;have dr:(w1.setCell ⟨g,a,none⟩ (.int .i64 (-1))).cell? (rN w.heap.size 0)=some (.slice A n c):=bi;have ds:(w1.setCell ⟨g,a,none⟩ (.int .i64 (-1))).cell? (rN w.heap.size 1)=some (.int .i64 root):=bi;have b6:=aa.set (by rw[b2.out];exact L) (-1);have d9:=(sa.of F:sa g w.heap.size w w1).setAt a (.int .i64 (-1));have c3:w.heap.size<(w1.setCell ⟨g,a,none⟩ (.int .i64 (-1))).heap.size:=by simpa using d8
  have bO:=d5.off ((sa.refl g w1.heap.size w1).setAt a (.int .i64 (-1))) bq;have bp:=I.set a (v:= -1) V V;generalize w1.setCell _ _=b0 at*;have bx:(kn.set a (-1)).length=n:=by rw[uB];exact b2.out
  have b3:=rz bx;have c7:DF (kn.set a (-1))<f:=V;have b5:=rz c7;clear bx c7;obtain⟨c9,d0⟩:=sW (kn.set a (-1));rw[<-d0]at b6 bp Z b3 b5;obtain⟨ct,a6⟩:=sW (EN (z6 S f) (Nj x) 1 c9);rw[<-a6]at Z;have ci:=rz a6;clear a6;obtain⟨q,p,x',A1,n1,c1,e1,N,c2,e2,fl,ec,e3,fm,ed,rfl,H,c5,⟨cv,ef,b9,eg,eh,ei,ek,el,em,en⟩,⟨_,cb,_,_⟩,_,_,f5,_,_⟩:=uY bO L;obtain rfl:x=x':=by rw[b4.out]at c5;injection c5
  have d1:x.kind=9->∀f∈x.fields,0<=f.type/\f.type<(n:Int):=cZ x (rU b4.out);have b1:=rz cb.len;have f7:=hX q H;have z:∀b,X b->b<b0.heap.size/\b≠g:=fun b hb=>bC
  go_wp2_with fail;go_loopw [7,36] (fun dp aU wr=>∃(j:Nat)(m:Int)(l:List Int),aU=.int .i64 j/\j<=N/\dp=.int .i64 m/\1<=m/\m<=1001/\RowKit.Hid (EN (z6 S f) (if x.kind=9 then x.fields.drop j else []) m l=ct)/\JU wr g l/\IZ l/\l.length=n/\DF l<f/\sa g b0.heap.size b0 wr) (fun _ aU _=>N-(intOf aU).toNat);case atStart=>exact⟨0,1,c9,rfl,sb _,rfl,V,V,by rw[zf];exact ci.out.symm,b6,bp,b3.out,b5.out,sa.refl _ _ _⟩
  case
   round=>
    obtain⟨j,m,l,rfl,f1,rfl,f2,f3,U,a4,I,bw,c8,C⟩:=hrel;have O:=rz bw;have a0:=rz c8;have f9:=C.size;have dx:=(C.cell (p:=rN w.heap.size 0) c3 bz).trans dr;have dz:=(C.cell (p:=rN w.heap.size 1) c3 bz).trans ds;have d7:=bO.off C z;have df:=d9.trans (C.mono (B':=w.heap.size) V);clear bw c8;by_cases br:j<N
    ·have cW:(j:Int)<(N:Int):=V;have a9:j<x.fields.length:=by rw[b1.out];exact br
     have cx:=(C.cell (p:=rN q (p+a*10)) (z q H).1 (z q H).2).trans cv;obtain⟨bd,fn,y,Q,ar,a2,k,i,t,B,az,d,B',m',d',rfl,cA,bn,⟨e4,e5,b8,e6,e7,e8,e9,ea,eb⟩,_,_,_,_⟩:=zq (cb.keep (w':=wr) (fun q H=>C.cell (z _ H).1 (z _ H).2) ug) br;have bk:x.fields[j]=y:=by rw[rD a9]at bn;injection bn
     have d3:y∈x.fields:=bk▸sj a9;have G:=(afw wr).al rV (fC y Q ar a2 k i t B az d B' m' d');have cc:=Cy.new wr y Q ar a2 k i t B az d B' m' d' wr.heap.size rfl;have f8:=G.l1;have d4:q<wr.heap.size:=by have:=(z q H).1;omega
     have af:w.heap.size<wr.heap.size:=V;have cE:g<wr.heap.size:=V;have f0:bd<wr.heap.size:=by have:=(z bd cA).1;omega
     have cz:RowKit.Hid (x.fields.drop j=y::x.fields.drop (j+1)):=by rw[rM a9,bk];exact rfl
     have fE:=G.cl dx af;have fS:=G.cl dz af;have er:=G.cl cx d4;have b7:=a4.below G cE;have d6:=d7.below G (fun b hb=>by have:=(z b hb).1;omega);have cy:∀b,X b->b<(wr.alloc (fC y Q ar a2 k i t B az d B' m' d')).heap.size/\b≠g:=fun b hb=>by have:=z b hb;omega
     go_upto_region 10 with fail;generalize wr.alloc _=e0 at*;by_cases D:x.kind=9
     ·have dj:(x.kind==9)=true:=tl.2 D;obtain⟨fb,fc⟩:=d1 D y d3;have o:=U.out;rw[rG D,cz.out,EN]at o;obtain⟨ty,c4⟩:∃ty:Nat,y.type=(ty:Int):=⟨y.type.toNat,V⟩;obtain⟨P,a5⟩:=sW (z6 S f ty l);have K:=FH S f ty l I;rw[c4,su,<-a5]at o;rw[<-a5]at K;have a8:=di ty l e0 a0.out I O.out V d6 b7 V cy;rw[<-a5]at a8;have bv:P.2.length=n:=K.len.trans O.out;have c6:DF P.2<f:=th K.DF a0.out;have cS:=K.Ms;have d2:=K.lo;have cR:=K.hi;have W:=rz o;have T:=rz D;have ch:=rz bv;have ck:=rz c6;obtain⟨_,_,b8,_⟩:=cc;rw[c4]at b8;clear o D bv c6;obtain⟨a1,cs⟩:=P;simp only at a8 d2 cR;have af:wrap64 (m+a1)=m+a1:=vw V V;go_wp2_with fail;refine sG a8 fun g0 ⟨cp,dd⟩=> ?_
      go_wp2_with fail;refine⟨⟨j+1,min (m+a1) 1001,cs,bA,V,?_,V,V,by rw[rG T.out];exact W.out,cp,cS,ch.out,ck.out,(C.trans (sa.of (G.mono V))).trans (dd.mono V)⟩,?_⟩;·rfl
      ·exact bN
     ·have dj:(x.kind==9)=false:=rA.2 D;have o:=U.out;rw[rB D]at o;have W:=rz o;have T:=rz D;clear o D;go_wp2_with fail;refine⟨⟨j+1,m,l,bA,V,rfl,V,V,by rw[rB T.out];exact W.out,b7,I,O.out,a0.out,C.trans (sa.of (G.mono V))⟩,?_⟩;exact bN
    ·obtain rfl:j=N:=V;have cW:¬(j:Int)<(j:Int):=V;have o:=U.out;have b9:(if x.kind=9 then x.fields.drop j else [])=[]:=by rw[tD (by rw[b1.out];omega)];split<;>rfl
     rw[b9,EN]at o;subst o;obtain rfl:R=(m,l.set a m):=Z.out;have bj:a<l.length:=by rw[O.out];exact L
     have cr:=a4.set bj m;obtain⟨g1,g2⟩:=a4 a l[a] (rD bj);generalize l[a]=g3 at*;go_wp2_with fail;go_ret;exact⟨rfl,cr,df.setAt a _⟩
def vi:afs:=[110,97,109,101]
def tC:afs:=[116,121,112,101]
def tz:afs:=[97,108,105,97,115,101,115]
def sS:afs:=[100,101,102,97,117,108,116]
def uM:afs:=[110,97,109,101,115,112,97,99,101]
def ui:afs:=[102,105,101,108,100,115]
def tY:afs:=[115,121,109,98,111,108,115]
def xp:afs:=[115,105,122,101]
def uW:afs:=[105,116,101,109,115]
def wP:afs:=[118,97,108,117,101,115]
def jT(t:afs):J:=.mk 4 0 t [] []
def jL(l:List J):J:=.mk 5 0 [] l []
def jO(ks:List afs)(l:List J):J:=.mk 6 0 [] l ks
def jN(n:Int):J:=.mk 3 n [] [] []
end
abbrev Sh:=List Bool×Bool
def opt{a:Type}(b:Bool)(x:a):List a:=if b=true then [x]else []
def tK{a:Type}(l:List a):Bool:= !l.isEmpty
def BY(l:List afs):J:=jL (l.map jT)
def AJ(a:Nat->Sh->J×Sh):List Int->Sh->List J×Sh
 | [],st=>([],st)
 |k::r,st=>((a k.toNat st).1::(AJ a r (a k.toNat st).2).1,(AJ a r (a k.toNat st).2).2)
def EM(a:Nat->Sh->J×Sh)(f:Fd)(st:Sh):J×Sh:=(jO ([vi,tC]++opt (tK f.aliases) tz++opt f.has sS) ([jT f.name,(a f.type.toNat st).1]++opt (tK f.aliases) (BY f.aliases)++opt f.has f.sL),(a f.type.toNat st).2)
def vC(a:Nat->Sh->J×Sh):List Fd->Sh->List J×Sh
 | [],st=>([],st)
 |f::r,st=>((EM a f st).1::(vC a r (EM a f st).2).1,(vC a r (EM a f st).2).2)
def x7(x:Nd):Bool:=x.aliases.any fun a=>tK (sO x.name)&& !tK (sO a)
def BH(x:Nd):List afs:=[tC,vi,uM]++opt (tK x.aliases) tz
def AF(x:Nd):List J:=[jT (tI x.kind),jT (vU x.name),jT (sO x.name)]++opt (tK x.aliases) (BY x.aliases)
def MV(a:Nat->Sh->J×Sh)(x:Nd)(st:Sh):J×Sh:=if x.kind=9 then(jO (BH x++[ui]) (AF x++[jL (vC a x.fields st).1]),(vC a x.fields st).2)else if x.kind=10 then(jO (BH x++[tY]++opt x.has sS) (AF x++[BY x.symbols]++opt x.has (jT x.sL)),st)else(jO (BH x++[xp]) (AF x++[jN x.size]),st)
def xS(S:List Nd):Nat->afs->Nat->Sh->J×Sh
 |0,_,_,st=>(J.zero,st)
 |f+1,ar,a,st=>
 match S[a]? with
 |none=>(J.zero,st)
 |some x=>if x.kind<=8 then(jT (tI x.kind),st)else if sr x.kind=true then(if st.1[a]? =some true then(jT x.name,(st.1,st.2||(tK ar&& !tK (sO x.name))))else MV (xS S f (sO x.name)) x (st.1.set a true,st.2||x7 x))else if x.kind=13 then(jL (AJ (xS S f ar) x.rX st).1,(AJ (xS S f ar) x.rX st).2)else(jO [tC,if x.kind=12 then wP else uW] [jT (tI x.kind),(xS S f ar x.items.toNat st).1],(xS S f ar x.items.toNat st).2)
def sM(a:Bool)(c e:Int):Int:=if a=true/\e=0 then c else e
abbrev Hd:=Int×afs
def td(x:Nd):Hd:=(x.kind,x.name)
def getD(j:J)(key:afs):J:=(uw j key).getD J.zero
def has(j:J)(key:afs):Bool:=(uw j key).isSome
def CH:Nd:=⟨0,[],[],[],[],false,[],0,0,[]⟩
def xE(j:J)(key:afs)(e:Int):afs×Int:=((getD j key).text,sM (!has j key|| !decide ((getD j key).kind=4)) 30 e)
def yq(x:J)(e:Int):List afs×Int:=(x.items.map J.text,sM (decide (40<x.items.length)) 3 (x.items.foldl (fun e i=>sM (!decide (i.kind=4)) 30 e) (sM (!decide (x.kind=5)) 30 e)))
def xC(full:afs->afs×Bool)(j:J)(e:Int):List afs×Int:=if has j tz=true then((yq (getD j tz) e).1.map (fun s=>(full s).1),(yq (getD j tz) e).1.foldl (fun e s=>sM (!(full s).2) 31 e) (yq (getD j tz) e).2)else([],e)
abbrev Bn:=Int×List Nd×Int
def wi(n:Nd)(a:List Hd)(e:Int):Bn:=if sM (decide (200<=a.length)) 3 e=0 then(a.length,[n],0)else(0,[],sM (decide (200<=a.length)) 3 e)
def zj(full:afs):Nat->List Hd->Int
 |_,[]=> -1
 |i,h::r=>if(sr h.1&&decide (h.2=full))=true then i else zj full (i+1) r
def Ab(a:List Hd)(full:afs):Int:=zj full 0 a
def Gz(a:Option afs):afs:=a.getD []
def zX(s ar:afs)(a:List Hd)(e:Int):Bn:=if 1<=wJ s/\wJ s<=8 then wi {CH with kind:=wJ s} a e else(max (Ab a (Gz (vT ar s))) 0,[],sM (decide (Ab a (Gz (vT ar s))<0)) 33 (sM (!(vT ar s).isSome) 31 e))
def Em(a:List Hd)(k:Int):Int:=match a[k.toNat]? with|some h=>h.1|none=>0
def AS(a:List Hd)(l:List Int)(k:Int):Bool:= !decide (Em a k=13)&& !(l.any fun e=>decide (e=k)||(!sr (Em a k)&&decide (Em a e=Em a k)))
def L4(nd:J->List Hd->Int->Bn)(a:List Hd):List J->List Int->List Nd->Int->Int×List Int×List Nd×Int
 | [],g,new,e=>(a.length-1,g,new,e)
 |j::r,g,new,e=>if(nd j (a++new.map td) e).2.2=0 then L4 nd a r (g++[(nd j (a++new.map td) e).1]) (new++(nd j (a++new.map td) e).2.1) (sM (!AS (a++(new++(nd j (a++new.map td) e).2.1).map td) g (nd j (a++new.map td) e).1) 34 0)else(0,g,new++(nd j (a++new.map td) e).2.1,(nd j (a++new.map td) e).2.2)
def Bl(nd:J->List Hd->Int->Bn)(l:List J)(a:List Hd)(e:Int):Bn:=if sM (decide (200<=a.length)) 3 (sM (decide (l.length<1)||decide (10<l.length)) 34 e)=0 then((L4 nd (a++[(13,[])]) l [] [] 0).1,{CH with kind:=13,rX:=(L4 nd (a++[(13,[])]) l [] [] 0).2.1}::(L4 nd (a++[(13,[])]) l [] [] 0).2.2.1,(L4 nd (a++[(13,[])]) l [] [] 0).2.2.2)else(0,[],sM (decide (200<=a.length)) 3 (sM (decide (l.length<1)||decide (10<l.length)) 34 e))
def Cu(nd:J->List Hd->Int->Bn)(j:J)(kind:Int)(key:afs)(a:List Hd)(e:Int):Bn:=if sM (decide (200<=a.length)) 3 (sM (!has j key) 30 e)=0 then(a.length,{CH with kind:=kind,items:=(nd (getD j key) (a++[(kind,[])]) 0).1}::(nd (getD j key) (a++[(kind,[])]) 0).2.1,(nd (getD j key) (a++[(kind,[])]) 0).2.2)else(0,[],sM (decide (200<=a.length)) 3 (sM (!has j key) 30 e))
def FP(a:Option afs):afs×Bool:=(Gz a,a.isSome)
def zJ(j:J)(kind:Int)(ar:afs)(h:List Hd)(e:Int):Nd×Int:=let n:=xE j vi e;let s:=if has j uM=true then xE j uM n.2 else([],n.2);let g:=yW n.1 s.1 (has j uM) ar;let a:=xC (fun s=>FP (vT (sO (Gz g)) s)) j (sM (decide (0<=Ab h (Gz g))) 32 (sM (!g.isSome|| !decide (wJ (Gz g)=0)) 31 s.2));({CH with kind:=kind,name:=Gz g,aliases:=a.1},a.2)
def DK(j:J)(l:List Fd)(e:Int):Fd×Int:=let n:=xE j vi (sM (!decide (j.kind=6)) 30 e);let a:=xC (fun s=>(s,xj s)) j (sM (l.any fun g=>decide (g.name=n.1)) 36 (sM (!xj n.1) 31 n.2));(⟨n.1,a.1,0,has j sS,getD j sS⟩,a.2)
def L2(nd:J->List Hd->Int->Bn)(a:List Hd):List J->List Fd->List Nd->Int->Int×List Fd×List Nd×Int
 | [],fs,new,e=>(a.length-1,fs,new,e)
 |x::r,fs,new,e=>if e=0 then let f:=DK x fs e;let g:=sM (!has x tC) 30 f.2;if g=0 then let q:=nd (getD x tC) (a++new.map td) 0;L2 nd a r (fs++[{f.1 with type:=q.1}]) (new++q.2.1) q.2.2 else L2 nd a r (fs++[f.1]) new g else(0,fs,new,e)
def Ad(nd:J->List Hd->Int->Bn)(j:J)(n:Nd)(g:List Hd)(e:Int):Bn:=let a:=sM (decide (200<=g.length)) 3 (sM (decide (40<(getD j ui).items.length)) 3 (sM (!decide ((getD j ui).kind=5)) 30 e));if a=0 then let r:=L2 nd (g++[td n]) (getD j ui).items [] [] 0;(r.1,{n with fields:=r.2.1}::r.2.2.1,r.2.2.2)else(0,[],a)
def Zt(all:List afs):Nat->List afs->Int->Int
 |_,[],e=>e
 |i,s::r,e=>Zt all (i+1) r (sM ((all.take i).contains s) 36 (sM (!xj s) 31 e))
def FL(j:J)(n:Nd)(g:List Hd)(e:Int):Bn:=let t:=yq (getD j tY) e;let a:=Zt t.1 0 t.1 (sM (decide (t.1.length=0)) 30 t.2);if has j sS=true then let d:=xE j sS a;wi {n with symbols:=t.1,has:=true,sL:=d.1} g (sM (!t.1.contains d.1) 35 d.2)else wi {n with symbols:=t.1,has:=false} g a
def G5(j:J)(n:Nd)(a:List Hd)(e:Int):Bn:=wi {n with size:=(getD j xp).int} a (sM (decide ((getD j xp).int<0)||decide (1000<(getD j xp).int)) 3 (sM (!decide ((getD j xp).kind=3)) 30 e))
def yi(nd:J->afs->List Hd->Int->Bn)(j:J)(ar:afs)(a:List Hd)(e:Int):Bn:=let w:=xE j tC e;if w.2=0 then let k:Int:=wJ w.1;if k=11 then Cu (fun j=>nd j ar) j k uW a 0 else if k=12 then Cu (fun j=>nd j ar) j k wP a 0 else if k=9 then(let h:=zJ j k ar a 0;Ad (fun j=>nd j (sO h.1.name)) j h.1 a h.2)else if k=10 then(let h:=zJ j k ar a 0;FL j h.1 a h.2)else if k=14 then(let h:=zJ j k ar a 0;G5 j h.1 a h.2)else zX w.1 ar a 0 else(0,[],w.2)
def uf:Nat->J->afs->List Hd->Int->Bn
 |0,_,_,_,e=>(0,[],e)
 |f+1,j,ar,a,e=>if e=0 then if j.kind=4 then zX j.text ar a 0 else if j.kind=5 then Bl (fun j=>uf f j ar) j.items a 0 else if j.kind=6 then yi (uf f) j ar a 0 else(0,[],30)else(0,[],e)
def look:List afs->List J->afs->Option J
 |k::ks,x::l,key=>if k=key then some x else look ks l key
 |_,_,_=>none
def Zr(a b:afs):((⟨a.toArray⟩:ByteArray)=⟨b.toArray⟩)↔a=b:=⟨fun h=>by injection h with h;exact(Array.mk.injEq _ _).mp h,fun h=>by rw[h]⟩
def Et(key:afs):∀(ks:List afs)(l:List J)(i:Nat),ks.length=l.length->(Lib.idxFromS (Ef ks) ⟨key.toArray⟩ i= -1/\look ks l key=none)\/∃n,Lib.idxFromS (Ef ks) ⟨key.toArray⟩ i=((i+n:Nat):Int)/\look ks l key=l[n]?
 | [],[],i,_=>.inl ⟨rfl,rfl⟩
 |k::ks,x::l,i,h=>
 by
  by_cases a:k=key;·right;exact⟨0,by simp[Ef,Lib.idxFromS,a],by simp[look,a]⟩
  ·have q:¬(⟨k.toArray⟩:ByteArray)=⟨key.toArray⟩:=fun e=>a ((Zr _ _).1 e)
   have g:Lib.idxFromS (Ef (k::ks)) ⟨key.toArray⟩ i=Lib.idxFromS (Ef ks) ⟨key.toArray⟩ (i+1):=by simp[Ef,Lib.idxFromS,q]
   have j:look (k::ks) (x::l) key=look ks l key:=by simp[look,a]
   rw[g,j];rcases Et key ks l (i+1) eK with h|⟨n,o,p⟩;·exact .inl h
   ·exact .inr ⟨n+1,by rw[o];omega,by rw[p];simp⟩
def BG(ks:List afs)(l:List J)(key:afs)(h:ks.length=l.length):uw (jO ks l) key=look ks l key:=by
 unfold uw HB Lib.idxOfS;show(if(6:Int)=6/\0<=Lib.idxFromS (Ef ks) ⟨key.toArray⟩ 0 then l[(Lib.idxFromS (Ef ks) ⟨key.toArray⟩ 0).toNat]? else none)=_;rcases Et key ks l 0 h with⟨a,e⟩|⟨n,a,e⟩;·rw[a,e,rB V]
 ·rw[a,e,rG ⟨rfl,V⟩];congr 1;omega
def Cf(b:afs):∀(a:afs)(st:Bool),w0 st (a++46::b)=true->w0 true b=true
 | [],true,h=>by simp[w0,HS]at h
 | [],false,h=>by simpa[w0]using h
 |c::a,true,h=>by simp only[si,w0,rO]at h;exact Cf b a _ h.2
 |c::a,false,h=>
 by
  simp only[si,w0]at h;split at h;·exact Cf b a _ h
  ·rw[rO]at h;exact Cf b a _ h.2
def HM:∀(n:afs),46∈n->∃a b,n=a++46::b/\46∉b
 | [],h=>dM
 |c::n,h=>
 by
  by_cases e:46∈n;·obtain⟨a,b,rfl,hb⟩:=HM n e;exact⟨c::a,b,rfl,hb⟩
  ·rcases sD.1 h with rfl|h;·exact⟨[],n,rfl,e⟩
   ·exact absurd h e
def RJ{n:afs}(h:vL n=true):vT (sO n) (vU n)=some n:=by
 have j:=h;unfold vL at j;simp only[rO,sd]at j;obtain⟨p,hq⟩:=j;unfold vT;by_cases hd:46∈n
 ·obtain⟨a,b,rfl,hb⟩:=HM n hd;obtain⟨e,g⟩:=Fx a b hb;have l:=Cf b a true hq;rw[Ce b hb]at l;have o:a≠ []:=by rintro rfl;simp[w0,HS]at hq
  have hsb:xj b=true:=by unfold xj;simp only[l,xA,sd];simp at p;omega
  have:yS a b=some (a++46::b):=by unfold yS;rw[rB hb,rG hsb,rB o]
  rw[e,g,this];simp only[h,uy]
 ·obtain⟨e,g⟩:=Cq n hd;rw[Ce n hd]at hq;have hsb:xj n=true:=jR;have:yS [] n=some n:=kZ;rw[e,g,this];simp only[h,uy]
def join_self{ar n:afs}(h:vL n=true)(a:ar=[]\/sO n≠ []):vT ar n=some n:=by
 have e:=h;unfold vL at e;simp only[rO,sd]at e;obtain⟨l,hq⟩:=e;unfold vT;by_cases hd:46∈n
 ·have:yS ar n=some n:=by unfold yS;rw[rG hd]
  rw[this];simp only[h,uy]
 ·obtain⟨g,j⟩:=Cq n hd;rw[g]at a;rw[Ce n hd]at hq;have hsb:xj n=true:=jR;have a:ar=[]:=a.resolve_right bA;subst a;have:yS [] n=some n:=kZ;rw[this];simp only[h,uy]
def Ho{full:afs}:∀(e:List Hd)(i k:Nat)(h:Hd),e[k]? =some h->sr h.1=true->h.2=full->(∀j a,j<k->e[j]? =some a->¬(sr a.1=true/\a.2=full))->zj full i e=((i+k:Nat):Int)
 | [],i,k,h,hk,_,_,_=>by simp at hk
 |g::e,i,k,h,hk,l,n,o=>
 by
  unfold zj;cases k with
  |zero=>simp at hk;subst hk;rw[rG (by simp[l,n])];rfl
  |succ k=>have:=o 0 g V rfl;rw[rB eV,Ho e (i+1) k h ki l n (fun j a q p=>o (j+1) a V (by simpa using p))];omega
def FM{full:afs}:∀(e:List Hd)(i:Nat),(∀a∈e,¬(sr a.1=true/\a.2=full))->zj full i e= -1
 | [],i,_=>rfl
 |g::e,i,j=>by unfold zj;rw[rB (by simpa using j g bA),FM e (i+1) (fun a l=>j a (by simp[l]))]
def BM(k:Int)(a:1<=k)(e:k<=14)(g:k≠13):(wJ (tI k):Int)=k:=by rcases(show k=1\/k=2\/k=3\/k=4\/k=5\/k=6\/k=7\/k=8\/k=9\/k=10\/k=11\/k=12\/k=14 from V)with rfl|rfl|rfl|rfl|rfl|rfl|rfl|rfl|rfl|rfl|rfl|rfl|rfl<;>decide+kernel
def tX(c e:Int):sM false c e=e:=by simp[sM]
def TP{S:List Nd}{x:Nd}(h:vM S x=true)(y:x.kind<=8):1<=x.kind/\x={CH with kind:=x.kind}:=by unfold vM at h;simp only[rO,sd]at h;obtain⟨⟨a,_⟩,hb,_⟩:=h;refine⟨a,?_⟩;have p:¬x.kind=9:=V;have e:¬x.kind=10:=V;have o:¬x.kind=14:=V;have g:¬x.kind=11:=V;have j:¬x.kind=12:=V;have l:¬x.kind=13:=V;obtain⟨k,n,al,fs,C,z,v,D,A,q⟩:=x;simp only at*;unfold CR yL sr at hb;simp[p,e,g,j,l,o]at hb;simp_all [CH]
def Ha{S:List Nd}{x:Nd}(h:vM S x=true)(hk:x.kind=13):Db S x.rX=true/\x={CH with kind:=13,rX:=x.rX}:=bQ
def Q5{S:List Nd}{x:Nd}(h:vM S x=true)(a:x.kind=11\/x.kind=12):x={CH with kind:=x.kind,items:=x.items}:=by unfold vM at h;simp only[rO,sd]at h;obtain⟨_,hb,_,j⟩:=h;obtain⟨k,n,al,fs,p,l,g,q,o,e⟩:=x;simp only at a;rcases a with rfl|rfl;all_goals unfold CR yL sr at hb;simp at hb;simp_all [CH]
structure Zi(x:Nd):Prop where
 name:vL x.name=true
 kind:wJ x.name=0
 many:x.aliases.length<=40
 alias:∀a∈x.aliases,vL a=true
def Af{S:List Nd}{x:Nd}(h:vM S x=true)(e:sr x.kind=true):Zi x:=by unfold vM at h;simp only[rO]at h;obtain⟨_,_,a,_⟩:=h;unfold Gy Kd at a;simp[e]at a;exact⟨a.1,a.2.1,a.2.2.1,a.2.2.2⟩
def G9{S:List Nd}{x:Nd}(h:vM S x=true)(hk:x.kind=14):(0<=x.size/\x.size<=1000)/\x={CH with kind:=14,name:=x.name,aliases:=x.aliases,size:=x.size}:=bQ
def Ja{S:List Nd}{x:Nd}(h:vM S x=true)(hk:x.kind=10):Mf x=true/\x={CH with kind:=10,name:=x.name,aliases:=x.aliases,symbols:=x.symbols,has:=x.has,sL:=x.sL}:=bQ
def CU{S:List Nd}{x:Nd}(h:vM S x=true)(hk:x.kind=9):yO x.fields=true/\x={CH with kind:=9,name:=x.name,aliases:=x.aliases,fields:=x.fields}:=bQ
structure LP(S:List Nd):Prop where
 node:∀x∈S,vM S x=true
 nd:∀(i j:Nat)(x y:Nd),S[i]? =some x->S[j]? =some y->sr x.kind=true->sr y.kind=true->x.name=y.name->i=j
 le:S.length<=200
structure Met(S:List Nd)(a:Nat)(m:List Bool):Prop where
 len:m.length=S.length
 iff:∀(i:Nat)(x:Nd),S[i]? =some x->sr x.kind=true->(m[i]? =some true↔i<a)
def tj(S:List Nd)(a:Nat):List Hd:=(S.take a).map td
def Uu{S:List Nd}{a i:Nat}{x:Nd}(h:S[i]? =some x)(e:i<a):(tj S a)[i]? =some (td x):=by unfold tj;rw[wg,yn,rG e,h];rfl
def P0{S:List Nd}{a i:Nat}{h:Hd}(e:(tj S a)[i]? =some h):i<a/\∃x,S[i]? =some x/\h=td x:=by
 unfold tj at e;rw[wg,yn]at e;by_cases g:i<a
 ·rw[rG g]at e;cases j:S[i]? with
  |none=>rw[j]at e;cases e
  |some x=>rw[j]at e;exact⟨g,x,rfl,by injection e with e;exact e.symm⟩
 ·rw[rB g]at e;cases e
def Um{S:List Nd}(ok:LP S){k a:Nat}{x:Nd}(g:S[k]? =some x)(e:sr x.kind=true)(o:k<a):Ab (tj S a) x.name=k:=by unfold Ab;rw[Ho (full:=x.name) (tj S a) 0 k (td x) (Uu g o) e rfl,tq];rintro j q v n ⟨h,l⟩;obtain⟨_,y,p,rfl⟩:=P0 n;have:=ok.nd j k y x p g h e l;omega
def Rn{S:List Nd}(ok:LP S){k a:Nat}{x:Nd}(n:S[k]? =some x)(l:sr x.kind=true)(v:a<=k):Ab (tj S a) x.name= -1:=by unfold Ab;refine FM _ _ ?_;rintro p h ⟨e,g⟩;obtain⟨i,j⟩:=CA h;obtain⟨q,y,o,rfl⟩:=P0 j;have:=ok.nd i k y x o n e l g;omega
def LN(e:Nat->Sh->J×Sh):Prop:=∀a st,(e a st).2.2=false->st.2=false
def Ig{e:Nat->Sh->J×Sh}(h:LN e):∀(l:List Int)(st:Sh),(AJ e l st).2.2=false->st.2=false
 | [],st,a=>a
 |k::r,st,a=>h _ _ (Ig h r _ a)
def Fv{e:Nat->Sh->J×Sh}(h:LN e):∀(l:List Fd)(st:Sh),(vC e l st).2.2=false->st.2=false
 | [],st,a=>a
 |f::r,st,a=>h _ _ (Fv h r _ a)
def MW{e:Nat->Sh->J×Sh}(h:LN e)(x:Nd)(st:Sh)(a:(MV e x st).2.2=false):st.2=false:=by
 unfold MV at a;split at a;·exact Fv h _ _ a
 ·split at a<;>exact a
def C9(S:List Nd):∀(f:Nat)(ar:afs),LN (xS S f ar):=by
 intro f;induction f with
 |zero=>intro ar a st h;exact h
 |succ f e=>
  intro ar a st h;unfold xS at h;split at h;·exact h
  ·rename_i x g;split at h;·exact h
   ·split at h
    ·split at h;·simp at h;exact h.1
     ·have:=MW (e _) x _ h;simp at this;exact this.1
    ·split at h;·exact Ig (e _) _ _ h
     ·exact e _ _ _ h
def I2(S:List Nd)(g:Nat->Sh->J×Sh)(ar:afs)(k:Int)(a e:Nat):Prop:=a<=e/\(0<=k/\k<(e:Int))/\∀m,Met S a m->(g k.toNat (m,false)).2.2=false->Met S e (g k.toNat (m,false)).2.1/\∀F,SizeOf.sizeOf (g k.toNat (m,false)).1<F->uf F (g k.toNat (m,false)).1 ar (tj S a) 0=(k,(S.take e).drop a,0)
inductive CP(S:List Nd)(tr:Nat->Sh->J×Sh)(ar:afs):List Int->Nat->Nat->Prop
 |nil (nx:Nat):CP S tr ar [] nx nx
 |cons {k:Int} {ks:List Int} {nx Ta R:Nat} (h:I2 S tr ar k nx Ta) (hr:CP S tr ar ks Ta R):CP S tr ar (k::ks) nx R
section
variable{x:J}{l:List J}(F:Nat){S:List Nd}{j:Nat}{g:List Int}{k:Int}{a:Nat}
def CP.le{e:Nat->Sh->J×Sh}{ar:afs}{ks:List Int}{a R:Nat}(h:CP S e ar ks a R):a<=R:=by
 induction h with
 |nil=>exact jF
 |cons h _ ih=>exact sn h.1 ih
def ML(st:Sh)(h:st.2=false):st=(st.1,false):=by rw[<-h]
def G6(t ar:afs)(a:List Hd):uf (F+1) (jT t) ar a 0=zX t ar a 0:=rfl
def Fb(S:List Nd){a b c:Nat}(e:a<=b)(g:b<=c):(S.take b).drop a++(S.take c).drop b=(S.take c).drop a:=by rw[<-II (b-a) ((S.take c).drop a),Bf,show a+(b-a)=b from V];congr 1;rw[<-List.drop_take,List.take_take];congr 1;congr 1;omega
def En(S:List Nd){a b:Nat}(e:a<=b):tj S a++((S.take b).drop a).map td=tj S b:=by unfold tj;rw[<-yD];congr 1;have:=Fb S (sb a) e;exact eV
def Eo(S:List Nd){a:Nat}(h:a<=S.length):(tj S a).length=a:=by unfold tj;simp;omega
def Hx(g:0<=k)(h:k<(a:Int)):Em (tj S a) k=Bq S k:=by
 unfold Em Bq;cases e:S[k.toNat]? with
 |none=>
  have:(tj S a)[k.toNat]? =none:=by rw[vE]at e|-;unfold tj;simp;omega
  rw[this]
 |some x=>rw[Uu e V];rfl
def XI(ok:LP S){f F:Nat}{ar:afs}{k:Int}{j:Nat}(G:0<F)(z:0<=k)(C:k<(j:Int))(hn:(match S[k.toNat]? with|some y=>sr y.kind|none=>false)=true)(n:F=f+1):I2 S (xS S F ar) ar k j j:=by
 subst n;cases g:S[k.toNat]? with
 |none=>rw[g]at hn;cases hn
 |some x=>
  rw[g]at hn;simp only at hn;refine⟨rZ _,⟨z,C⟩,fun m p l=> ?_⟩;have E:=(p.iff k.toNat x g hn).2 V;have D:¬x.kind<=8:=fO;have e:xS S (f+1) ar k.toNat (m,false)=(jT x.name,(m,(tK ar&& !tK (sO x.name)))):=by unfold xS;simp only[g,rB D,rG hn,rG E,uA]
  rw[e]at l|-;refine⟨p,fun F n=> ?_⟩;obtain⟨F,rfl⟩:∃q,F=q+1:=⟨F-1,V⟩;have o:=Af (ok.node x (rU g)) hn;rw[G6];unfold zX;rw[rB (by rw[o.kind];omega),join_self o.name (by
   simp only[IE,Bool.not_eq_eq_eq_not,xT]at l;rcases l with h|h;·left;unfold tK at h;simpa using h
   ·right;unfold tK at h;simpa using h)]
  have A:=Um ok g hn (a:=j) V;simp only[Gz,Option.getD_some,DH,tM,tX,A];have:decide (((k.toNat:Nat):Int)<0)=false:=rI V;rw[this,tX];have v:(S.take j).drop j=[]:=jf;rw[v];congr 1;omega
def UJ(ok:LP S){f F:Nat}{ar:afs}(e:F=f+1)(wk:Nat->Option Nat)(hwk:∀a b,wk a=some b->I2 S (xS S F ar) ar (a:Int) a b):∀(ks:List Int)(nx R:Nat),AV S wk ks nx=some R->CP S (xS S F ar) ar ks nx R:=by
 intro ks;induction ks with
 |nil=>exact kq
 |cons k ks ih=>
  intro nx R h;simp only[AV]at h;split at h;·exact fN
  ·rename_i hk;split at h;·cases h
   ·rename_i l;split at h
    ·rename_i y j;split at h;·rename_i g;exact .cons (XI ok (f:=f) V V V (by rw[j];exact g) e) (ih _ _ h)
     ·cases h
    ·simp at h
def MZ(h:x∈l):SizeOf.sizeOf x<SizeOf.sizeOf l:=wX h
def Rc(l:0<=k/\k<(j:Int))(hb:∀a∈g,0<=a/\a<(j:Int))(n:Bq S k≠13)(o:g.any (Eg S (Bq S k) k)=false):AS (tj S j) g k=true:=by
 unfold AS;rw[Hx l.1 l.2];rw[rI n,xT,sk,xt];rw[<-o];rw[Aj,List.any_eq_true,List.any_eq_true];constructor;·rintro⟨a,e,h⟩;exact⟨a,e,by unfold Eg;rw[Hx (hb a e).1 (hb a e).2]at h;exact h⟩
 ·rintro⟨a,e,h⟩;exact⟨a,e,by unfold Eg at h;rw[Hx (hb a e).1 (hb a e).2];exact h⟩
def Pw{e:Nat->Sh->J×Sh}{ar:afs}(T:LN e)(all:List Int)(a F:Nat):∀(ks:List Int)(g R j:Nat)(m:List Bool),CP S e ar ks g R->a<g->Met S g m->(AJ e ks (m,false)).2.2=false->SizeOf.sizeOf (AJ e ks (m,false)).1<F+1->all.drop j=ks->(∀l∈all.take j,0<=l/\l<(g:Int))->DX S all j ks=true->Met S R (AJ e ks (m,false)).2.1/\L4 (fun j=>uf F j ar) (tj S (a+1)) (AJ e ks (m,false)).1 (all.take j) ((S.take g).drop (a+1)) 0=(((tj S (a+1)).length:Int)-1,all,(S.take R).drop (a+1),0):=by
 intro ks;induction ks with
 |nil=>intro g R j m x I z p n hd q o;cases x;refine⟨z,?_⟩;have:all.take j=all:=kH;simp only[AJ,L4,this]
 |cons k ks X=>
  intro g R j m x I z p n hd q o;cases x with
  |cons y O=>
   rename_i v;obtain⟨Q,C,y⟩:=y;have E:=Ig T ks _ p;obtain⟨U,hb⟩:=y m z E;have hb:=hb F (by simp only[AJ,List.cons.sizeOf_spec]at n;omega);have L:=ML _ E;have W:(AJ e (k::ks) (m,false))=((e k.toNat (m,false)).1::(AJ e ks ((e k.toNat (m,false)).2.1,false)).1,(AJ e ks ((e k.toNat (m,false)).2.1,false)).2):=by show((e k.toNat (m,false)).1::(AJ e ks (e k.toNat (m,false)).2).1,(AJ e ks (e k.toNat (m,false)).2).2)=_;rw[L]
   rw[W]at p n|-;simp only at p n|-;have Mn:j<all.length:=gJ;have A:=rM Mn;rw[hd]at A;injection A with hk1 hk2;have D:all.take (j+1)=all.take j++[k]:=jY;simp only[DX,rO,xt,xY]at o;have K:AS (tj S v) (all.take j) k=true:=Rc C (fun l h=>⟨(q l h).1,by have:=(q l h).2;omega⟩) o.1.1 o.1.2;have M:tj S (a+1)++((S.take g).drop (a+1)).map td=tj S g:=En S V;have N:tj S (a+1)++((S.take v).drop (a+1)).map td=tj S v:=En S V;obtain⟨G,H⟩:=X v R (j+1) _ O V U p (by simp only[List.cons.sizeOf_spec]at n;omega) hk2.symm (by
    intro l h;rw[D]at h;rcases sI.1 h with h|h;·have:=q l h;omega
    ·simp at h;subst h;exact C) o.2
   refine⟨G,?_⟩;unfold L4;rw[M,hb];simp only[uy];rw[Fb S V Q,N,K,tM,tX,<-D];exact H
def Im(ok:LP S){e:Nat->Sh->J×Sh}{ar:afs}(K:LN e){a R F:Nat}{x:Nd}{m:List Bool}(hx:S[a]? =some x)(l:x.kind=13)(q:CP S e ar x.rX (a+1) R)(L:Met S (a+1) m)(N:(AJ e x.rX (m,false)).2.2=false)(z:SizeOf.sizeOf (jL (AJ e x.rX (m,false)).1)<F):Met S R (AJ e x.rX (m,false)).2.1/\uf F (jL (AJ e x.rX (m,false)).1) ar (tj S a) 0=((a:Int),(S.take R).drop a,0):=by
 have o:a<S.length:=(rQ.1 hx).1;obtain⟨g,A⟩:=Ha (ok.node x (rU hx)) l;obtain⟨F,rfl⟩:∃C,F=C+1:=⟨F-1,V⟩;unfold Db at g;simp only[rO,sd]at g;have I:(S.take (a+1)).drop (a+1)=[]:=jf;have y:∀(ks:List Int)(st:Sh),(AJ e ks st).1.length=ks.length:=by
  intro ks;induction ks with
  |nil=>intro st;rfl
  |cons k ks O=>intro st;simp only[AJ,rP,O]
 obtain⟨D,n⟩:=Pw K x.rX a F x.rX (a+1) R 0 m q V L N (by unfold jL at z;simp only[J.mk.sizeOf_spec]at z;omega) rfl bA g.2;refine⟨D,?_⟩;rw[List.take_zero,I]at n;have p:tj S (a+1)=tj S a++[(13,[])]:=by
  have:=En S (a:=a) (b:=a+1) V;rw[<-this];congr 1;have:(S.take (a+1)).drop a=[x]:=by rw[zc,hx];simp[List.drop_append,Nat.min_eq_left (zE o)]
  rw[this];simp[td,l];rw[A];rfl
 show Bl (fun j=>uf F j ar) (AJ e x.rX (m,false)).1 (tj S a) 0=_;have v:=Eo S (zE o);have T:=ok.le;have E:decide ((AJ e x.rX (m,false)).1.length<1)=false:=rI (by rw[y];omega);have G:decide (10<(AJ e x.rX (m,false)).1.length)=false:=rI (by rw[y];omega);have H:decide (200<=(tj S a).length)=false:=rI (by rw[v];omega);unfold Bl;rw[E,G,H,Cr,tX,tX,rG rfl,<-p,n];simp only;rw[p];have Q:=q.le;have M:(S.take R).drop a=x::(S.take R).drop (a+1):=fp;rw[M,<-A];simp[v]
end
