import Derived.Test.YtccjlcadbpinfaaGreatDoorX1
import Derived.Laws.BitsLemmas
import Derived.Deep.CutBlock
import Derived.Laws.CopyOwn
import Derived.Laws.OwnMore
set_option linter.all false
set_option maxRecDepth 100000
set_option maxHeartbeats 8000000
namespace Go.Proofs.YtccjlcadbpinfaaGreatDoor.Ut
open ChangeShapes WideShapes ChangeAt RowKit
open Num Mem Can
def ab8(A:aft)(k d b c:Nat)(xs:afs)(D:0<=c)(E:c<=127)(i:yR c=true)(w:World)(n:Own w b A k d xs)(g:b<=w.heap.size)(F:k<=1000000000):Calls Tryz.prog 241 #[.slice A k d,.int .i32 c] w fun e w'=>∃A' c',e=.returned (.tuple #[.slice A' (k+1) c',.int .i64 0])/\Own w' b A' (k+1) c' (xs++uu c)/\Below b w w':=by
 have r:=rz i;have o:uu c=[UInt8.ofNat (c)]:=by unfold uu;rw[rG V]
 have v:=rz o;have p:((UInt8.ofNat (c)).toNat:Int)=((c:Nat):Int):=cw;have HX0:=rz p;clear i o p;have l:decide ((128:Int)<=(c:Int))=false:=rI V;have t:=rz l;clear l;go_enter GZ,EX;go_wp2_with fail;refine tZ (x9 c V V _) ?_;rw[r.out];go_wp2_with fail;refine Lq 4 ?_;rw[yk];go_wp2_with fail;go_quiet ((go_at_call 247;first|exact vZ (AX _)|exact wQ (AX _)));try rw[t.out]
 have y:∀m,Own ((w.alloc (.cells #[.int .i32 (c:Int)] 21)).drewN m) b A k d xs:=fun m=>(n.alloc _).drewN m
 have z:∀m,Bx ((w.alloc (.cells #[.int .i32 (c:Int)] 21)).drewN m) A w.heap.size (.int .i32 (c:Int)):=fun m=>(Bx.new n _ _).drewN m
 have x:∀m,Below b w ((w.alloc (.cells #[.int .i32 (c:Int)] 21)).drewN m):=fun m=>(xn.al g _).drewN m
 go_wp2_with(at_builtin;go_loud (refine yf rfl rfl ((y _).alloc _) rfl (zw _ (UInt8.ofNat (c)) _ _ bA kg) V (by simp;omega) ((z _).alloc _) ?_);intro q c1 w1 C B H);have j:Below b w w1:=((x _).al g _).trans B;have G:=j.size;go_ret2;refine⟨q,c1,rfl,?_,j⟩;rw[v.out];simpa[sw]using C
def ab9(A:aft)(k i b c:Nat)(xs:afs)(M:128<=c)(N:c<=2047)(l:yR c=true)(w:World)(p:Own w b A k i xs)(j:b<=w.heap.size)(O:k<=1000000000):Calls Tryz.prog 241 #[.slice A k i,.int .i32 c] w fun e w'=>∃A' c',e=.returned (.tuple #[.slice A' (k+2) c',.int .i64 0])/\Own w' b A' (k+2) c' (xs++uu c)/\Below b w w':=by
 have v:=rz l;have q:uu c=[UInt8.ofNat (192+c/64),UInt8.ofNat (128+c%64)]:=by unfold uu;rw[rB V];rw[rG V]
 have z:=rz q;have r:((UInt8.ofNat (192+c/64)).toNat:Int)=((192+c/64:Nat):Int):=cw;have HX0:=rz r;have g:((UInt8.ofNat (128+c%64)).toNat:Int)=((128+c%64:Nat):Int):=cw;have B:=rz g;clear l q r g;have d:decide ((128:Int)<=(c:Int))=true:=rY V;have x:=rz d;clear d;have o:decide ((2048:Int)<=(c:Int))=false:=rI V;have y:=rz o;clear o;go_enter GZ,EX;go_wp2_with fail;refine tZ (x9 c V V _) ?_;rw[v.out];go_wp2_with fail;refine Lq 4 ?_;rw[yk];go_wp2_with fail;go_quiet ((go_at_call 247;first|exact vZ (AX _)|exact wQ (AX _)));try rw[x.out]
 go_wp2_with fail;rw[yk];go_wp2_with fail;go_quiet ((go_at_call 247;first|exact vZ (Dn _)|exact wQ (Dn _)));try rw[y.out]
 have D:∀m,Own ((w.alloc (.cells #[.int .i32 (c:Int)] 21)).drewN m) b A k i xs:=fun m=>(p.alloc _).drewN m
 have E:∀m,Bx ((w.alloc (.cells #[.int .i32 (c:Int)] 21)).drewN m) A w.heap.size (.int .i32 (c:Int)):=fun m=>(Bx.new p _ _).drewN m
 have C:∀m,Below b w ((w.alloc (.cells #[.int .i32 (c:Int)] 21)).drewN m):=fun m=>(xn.al j _).drewN m
 go_wp2_with(at_builtin;go_loud (refine yf rfl rfl ((D _).alloc _) rfl (zw _ (UInt8.ofNat (192+c/64)) _ _ bA kg) V (by simp;omega) ((E _).alloc _) ?_);intro L c1 w1 H F g);have n:Below b w w1:=((C _).al j _).trans F;have R:=n.size;refine tZ (OQ w.heap.size c V w1 g.cell) ?_;go_wp2_with(at_builtin;go_loud (refine yf rfl rfl ((H).alloc _) rfl (zw _ (UInt8.ofNat (128+c%64)) _ _ bA (by rw[B.out]<;>omega)) V (by simp;omega) ((g).alloc _) ?_);intro t c2 K I G T);have d:Below b w K:=(n.al V _).trans G;have S:=d.size;go_ret2;refine⟨t,c2,rfl,?_,d⟩;rw[z.out];simpa[sw]using I
def aca(A:aft)(k l b c:Nat)(xs:afs)(Y:2048<=c)(Z:c<=65535)(o:yR c=true)(w:World)(r:Own w b A k l xs)(n:b<=w.heap.size)(a0:k<=1000000000):Calls Tryz.prog 241 #[.slice A k l,.int .i32 c] w fun e w'=>∃A' c',e=.returned (.tuple #[.slice A' (k+3) c',.int .i64 0])/\Own w' b A' (k+3) c' (xs++uu c)/\Below b w w':=by
 have z:=rz o;have t:uu c=[UInt8.ofNat (224+c/4096),UInt8.ofNat (128+c/64%64),UInt8.ofNat (128+c%64)]:=by unfold uu;rw[rB V];rw[rB V];rw[rG V]
 have E:=rz t;have v:((UInt8.ofNat (224+c/4096)).toNat:Int)=((224+c/4096:Nat):Int):=cw;have HX0:=rz v;have i:((UInt8.ofNat (128+c/64%64)).toNat:Int)=((128+c/64%64:Nat):Int):=cw;have F:=rz i;have j:((UInt8.ofNat (128+c%64)).toNat:Int)=((128+c%64:Nat):Int):=cw;have G:=rz j;clear o t v i j;have d:decide ((128:Int)<=(c:Int))=true:=rY V;have B:=rz d;clear d;have g:decide ((2048:Int)<=(c:Int))=true:=rY V;have C:=rz g;clear g;have q:decide ((65536:Int)<=(c:Int))=false:=rI V;have D:=rz q;clear q;go_enter GZ,EX;go_wp2_with fail;refine tZ (x9 c V V _) ?_;rw[z.out];go_wp2_with fail;refine Lq 4 ?_;rw[yk];go_wp2_with fail;go_quiet ((go_at_call 247;first|exact vZ (AX _)|exact wQ (AX _)));try rw[B.out]
 go_wp2_with fail;rw[yk];go_wp2_with fail;go_quiet ((go_at_call 247;first|exact vZ (Dn _)|exact wQ (Dn _)));try rw[C.out]
 go_wp2_with fail;rw[yk];go_wp2_with fail;go_quiet ((go_at_call 247;first|exact vZ (Gw _)|exact wQ (Gw _)));try rw[D.out]
 have K:∀m,Own ((w.alloc (.cells #[.int .i32 (c:Int)] 21)).drewN m) b A k l xs:=fun m=>(r.alloc _).drewN m
 have L:∀m,Bx ((w.alloc (.cells #[.int .i32 (c:Int)] 21)).drewN m) A w.heap.size (.int .i32 (c:Int)):=fun m=>(Bx.new r _ _).drewN m
 have I:∀m,Below b w ((w.alloc (.cells #[.int .i32 (c:Int)] 21)).drewN m):=fun m=>(xn.al n _).drewN m
 go_wp2_with(at_builtin;go_loud (refine yf rfl rfl ((K _).alloc _) rfl (zw _ (UInt8.ofNat (224+c/4096)) _ _ bA kg) V (by simp;omega) ((L _).alloc _) ?_);intro W c1 w1 R M i);have p:Below b w w1:=((I _).al n _).trans M;have a1:=p.size;refine tZ (Vk w.heap.size c V w1 i.cell) ?_;go_wp2_with(at_builtin;go_loud (refine yf rfl rfl ((R).alloc _) rfl (zw _ (UInt8.ofNat (128+c/64%64)) _ _ bA (by rw[F.out]<;>omega)) V (by simp;omega) ((i).alloc _) ?_);intro X c2 x S N j);have d:Below b w x:=(p.al V _).trans N;have a2:=d.size;refine tZ (OQ w.heap.size c V x j.cell) ?_;go_wp2_with(at_builtin;go_loud (refine yf rfl rfl ((S).alloc _) rfl (zw _ (UInt8.ofNat (128+c%64)) _ _ bA (by rw[G.out]<;>omega)) V (by simp;omega) ((j).alloc _) ?_);intro y H U T O a4);have g:Below b w U:=(d.al V _).trans O;have a3:=g.size;go_ret2;refine⟨y,H,rfl,?_,g⟩;rw[E.out];simpa[sw]using T
def acb(A:aft)(k o b c:Nat)(xs:afs)(a5:65536<=c)(a6:c<=1114111)(q:yR c=true)(w:World)(t:Own w b A k o xs)(p:b<=w.heap.size)(a7:k<=1000000000):Calls Tryz.prog 241 #[.slice A k o,.int .i32 c] w fun e w'=>∃A' c',e=.returned (.tuple #[.slice A' (k+4) c',.int .i64 0])/\Own w' b A' (k+4) c' (xs++uu c)/\Below b w w':=by
 have C:=rz q;have v:uu c=[UInt8.ofNat (240+c/262144),UInt8.ofNat (128+c/4096%64),UInt8.ofNat (128+c/64%64),UInt8.ofNat (128+c%64)]:=by unfold uu;rw[rB V];rw[rB V];exact nQ
 have G:=rz v;have x:((UInt8.ofNat (240+c/262144)).toNat:Int)=((240+c/262144:Nat):Int):=cw;have HX0:=rz x;have j:((UInt8.ofNat (128+c/4096%64)).toNat:Int)=((128+c/4096%64:Nat):Int):=cw;have H:=rz j;have l:((UInt8.ofNat (128+c/64%64)).toNat:Int)=((128+c/64%64:Nat):Int):=cw;have I:=rz l;have n:((UInt8.ofNat (128+c%64)).toNat:Int)=((128+c%64:Nat):Int):=cw;have K:=rz n;clear q v x j l n;have d:decide ((128:Int)<=(c:Int))=true:=rY V;have D:=rz d;clear d;have g:decide ((2048:Int)<=(c:Int))=true:=rY V;have E:=rz g;clear g;have i:decide ((65536:Int)<=(c:Int))=true:=rY V;have F:=rz i;clear i;go_enter GZ,EX;go_wp2_with fail;refine tZ (x9 c V V _) ?_;rw[C.out];go_wp2_with fail;refine Lq 4 ?_;rw[yk];go_wp2_with fail;go_quiet ((go_at_call 247;first|exact vZ (AX _)|exact wQ (AX _)));try rw[D.out]
 go_wp2_with fail;rw[yk];go_wp2_with fail;go_quiet ((go_at_call 247;first|exact vZ (Dn _)|exact wQ (Dn _)));try rw[E.out]
 go_wp2_with fail;rw[yk];go_wp2_with fail;go_quiet ((go_at_call 247;first|exact vZ (Gw _)|exact wQ (Gw _)));try rw[F.out]
 go_wp2_with fail;rw[yk];go_wp2_with fail;go_quiet (fail);have N:∀m,Own ((w.alloc (.cells #[.int .i32 (c:Int)] 21)).drewN m) b A k o xs:=fun m=>(t.alloc _).drewN m
 have O:∀m,Bx ((w.alloc (.cells #[.int .i32 (c:Int)] 21)).drewN m) A w.heap.size (.int .i32 (c:Int)):=fun m=>(Bx.new t _ _).drewN m
 have M:∀m,Below b w ((w.alloc (.cells #[.int .i32 (c:Int)] 21)).drewN m):=fun m=>(xn.al p _).drewN m
 go_wp2_with(at_builtin;go_loud (refine yf rfl rfl ((N _).alloc _) rfl (zw _ (UInt8.ofNat (240+c/262144)) _ _ bA kg) V (by simp;omega) ((O _).alloc _) ?_);intro a1 c1 w1 W R j);have r:Below b w w1:=((M _).al p _).trans R;have a8:=r.size;refine tZ (aaj w.heap.size c V w1 j.cell) ?_;go_wp2_with(at_builtin;go_loud (refine yf rfl rfl ((W).alloc _) rfl (zw _ (UInt8.ofNat (128+c/4096%64)) _ _ bA (by rw[H.out]<;>omega)) V (by simp;omega) ((j).alloc _) ?_);intro a2 c2 y X S l);have d:Below b w y:=(r.al V _).trans S;have a9:=d.size;refine tZ (Vk w.heap.size c V y l.cell) ?_;go_wp2_with(at_builtin;go_loud (refine yf rfl rfl ((X).alloc _) rfl (zw _ (UInt8.ofNat (128+c/64%64)) _ _ bA (by rw[I.out]<;>omega)) V (by simp;omega) ((l).alloc _) ?_);intro a3 a4 z Y T n);have g:Below b w z:=(d.al V _).trans T;have aa:=g.size;refine tZ (OQ w.heap.size c V z n.cell) ?_;go_wp2_with(at_builtin;go_loud (refine yf rfl rfl ((Y).alloc _) rfl (zw _ (UInt8.ofNat (128+c%64)) _ _ bA (by rw[K.out]<;>omega)) V (by simp;omega) ((n).alloc _) ?_);intro B L a0 Z U ad);have i:Below b w a0:=(g.al V _).trans U;have ab:=i.size;go_ret2;refine⟨B,L,rfl,?_,i⟩;rw[G.out];simpa[sw]using Z
def uV(xs:afs):Int:=if(wu xs).2.2=0 then(wu xs).1 else-1
def Lk(h l:Int):Bool:=decide (55296<=h)&&decide (h<56320)&&decide (56320<=l)&&decide (l<57344)
def uP(h l:Int):Int:=if Lk h l=true then 65536+(h-55296)*1024+l-56320 else 0
def Nc(h l:Int):Lk h l=true↔55296<=h/\h<56320/\56320<=l/\l<57344:=by unfold Lk;simp[and_assoc]
def Y9{h l:Int}(b:¬(55296<=h/\h<56320/\56320<=l/\l<57344)):Lk h l=false/\uP h l=0:=by
 have e:¬Lk h l=true:=fun e=>b ((Nc h l).1 e)
 exact⟨by simpa using e,by unfold uP;rw[rB e]⟩
def VY{h l:Int}(b:55296<=h/\h<56320/\56320<=l/\l<57344):Lk h l=true/\uP h l=65536+(h-55296)*1024+l-56320:=by have e:=(Nc h l).2 b;exact⟨e,by unfold uP;rw[rG e]⟩
def Vj(h l:Int)(n: -2147483648<=h)(o:h<=2147483647)(p: -2147483648<=l)(q:l<=2147483647)(w:World):Calls Tryz.prog 240 #[.int .i32 h,.int .i32 l] w (zW w (.tuple #[.int .i32 (uP h l),.bool (Lk h l)])):=by
 by_cases b:55296<=h/\h<56320/\56320<=l/\l<57344
 ·obtain⟨d,e⟩:=VY b;obtain⟨g,i,j,k⟩:=b;generalize Lk h l=m at d|-;generalize uP h l=r at e|-;try subst d
  subst e;exact nt
 ·obtain⟨d,e⟩:=Y9 b;generalize Lk h l=m at d|-;generalize uP h l=r at e|-;try subst d
  subst e;rcases(show h<55296\/(¬h<55296/\56320<=h)\/(¬h<55296/\¬56320<=h/\l<56320)\/(¬h<55296/\¬56320<=h/\¬l<56320/\57344<=l)from V)with g|⟨g,i⟩|⟨g,i,j⟩|⟨g,i,j,k⟩;·clear b;exact nt
  ·clear b;exact nt
  ·clear b;exact nt
  ·clear b;exact nt
def aaG(h l:Int):0<=uP h l/\uP h l<=1114111:=by
 by_cases d:55296<=h/\h<56320/\56320<=l/\l<57344;·obtain⟨e,b⟩:=VY d;rw[b];omega
 ·obtain⟨e,b⟩:=Y9 d;rw[b];omega
def X2(A:aft)(k j b c:Nat)(xs:afs)(l:yR c=true)(w:World)(o:Own w b A k j xs)(m:b<=w.heap.size)(n:k<=1000000000):Calls Tryz.prog 241 #[.slice A k j,.int .i32 c] w fun e w'=>∃A' n' c',e=.returned (.tuple #[.slice A' n' c',.int .i64 0])/\n'=k+(uu c).length/\Own w' b A' n' c' (xs++uu c)/\Below b w w':=by
 have q:=(BK c).1 l;rcases(show c<128\/(128<=c/\c<2048)\/(2048<=c/\c<65536)\/65536<=c from V)with h|⟨h,p⟩|⟨h,p⟩|h
 ·have i:(uu c).length=1:=by unfold uu;rw[rG h];rfl
  refine(ab8 A k j b c xs V V l w o m n).mono ?_;rintro e w' ⟨A',c',rfl,d,g⟩;exact⟨A',k+1,c',rfl,by rw[i],d,g⟩
 ·have i:(uu c).length=2:=by unfold uu;rw[rB V,rG p];rfl
  refine(ab9 A k j b c xs V V l w o m n).mono ?_;rintro e w' ⟨A',c',rfl,d,g⟩;exact⟨A',k+2,c',rfl,by rw[i],d,g⟩
 ·have i:(uu c).length=3:=by unfold uu;rw[rB V,rB V,rG p];rfl
  refine(aca A k j b c xs V V l w o m n).mono ?_;rintro e w' ⟨A',c',rfl,d,g⟩;exact⟨A',k+3,c',rfl,by rw[i],d,g⟩
 ·have i:(uu c).length=4:=by unfold uu;rw[rB V,rB V,rB V];rfl
  refine(acb A k j b c xs V V l w o m n).mono ?_;rintro e w' ⟨A',c',rfl,d,g⟩;exact⟨A',k+4,c',rfl,by rw[i],d,g⟩
end Go.Proofs.YtccjlcadbpinfaaGreatDoor.Ut
namespace Go.Proofs.YtccjlcadbpinfaaGreatDoor.Tp
open ChangeShapes WideShapes ChangeAt RowKit
open Num Mem Can
def xl(w:World)(g:Nat)(A:aft)(n c:Nat)(a e:Int)(A':aft)(m d:Nat):Prop:=(w.cell? (rN g 0)=some (.slice A n c)/\w.cell? (rN g 1)=some (.int .i64 a)/\w.cell? (rN g 2)=some (.int .i64 e)/\w.cell? (rN g 3)=some (.slice A' m d))/\w.frozen? (rN g 1)=false/\w.frozen? (rN g 2)=false/\w.frozen? (rN g 3)=false
def xl.below{w w':World}{g B:Nat}{A A':aft}{n c m d:Nat}{a e:Int}(h:xl w g A n c a e A' m d)(hb:Below B w w')(b:g<B):xl w' g A n c a e A' m d:=⟨⟨(hb.cell b).trans h.1.1,(hb.cell b).trans h.1.2.1,(hb.cell b).trans h.1.2.2.1,(hb.cell b).trans h.1.2.2.2⟩,(hb.frozen b).trans h.2.1,(hb.frozen b).trans h.2.2.1,(hb.frozen b).trans h.2.2.2⟩
def zi(c:UInt8)(w:World):Calls Tryz.prog 192 #[.int .u8 (c.toNat:Int)] w (zW w (.bool (vS c))):=by unfold vS;go_enter Tryz.func192,Tryz.ntmps192;exact dw
def xd(c:UInt8):Bool:=decide ((48<=c.toNat/\c.toNat<=57)\/(97<=c.toNat/\c.toNat<=122)\/(65<=c.toNat/\c.toNat<=90))
def Br(c:UInt8)(w:World):Calls Tryz.prog 196 #[.int .u8 (c.toNat:Int)] w (zW w (.bool (xd c))):=by
 have b:=zi c w;have e:xd c=(vS c||decide ((97<=c.toNat/\c.toNat<=122)\/(65<=c.toNat/\c.toNat<=90))):=by unfold xd vS;rw[Aj];simp
 rw[e];generalize vS c=d at*;cases d;·go_enter Tryz.func196,Tryz.ntmps196;go_wp2_with fail;refine tZ b ?_;exact dw
 ·go_enter Tryz.func196,Tryz.ntmps196;go_wp2_with fail;refine tZ b ?_;exact nf
def pk(xs:afs)(a:Nat):UInt8:=xs.getD a 0
def uF(g:Nat)(A A':aft)(n c m d B a:Nat)(e:Int)(xs:afs)(w:World)(l:xl w g A n c a e A' m d)(t:g<w.heap.size)(v:Rd w B A n xs)(M:B<=g)(U:n<=1000000000)(N:a<=n):Calls Tryz.prog 197 #[sg g] w fun e' w'=>e'=.returned (.int .u8 ((pk xs a).toNat:Int))/\afv w w':=by
 have T:=v.len;have q:=rz l;by_cases h:a<n
 ·obtain⟨f,o,x,rfl,R,I,r⟩:=v.at_ h;have j:pk xs a=x:=by unfold pk;simp[List.getD,I]
  rw[j];have S:(a:Int)<n:=V;have E:decide ((a:Int)<n)=true:=jg;have z:=rz r;clear l r;go_enter Tryz.func197,Tryz.ntmps197;go_wp2_with fail;refine sT [0,1,2,3,4,5,6,7,8,9] [] bm bm bA bm bt (fun wd b tj=> ?_);have GM:=rz (xl.below q.out b t);have C:=rz ((b.cell (p:=rN f (o+a)) bl).trans z.out);have H:g<wd.heap.size:=V;have F:afv w wd:=b;refine ac ?_;refine sQ ?_;go_wp2_with fail;refine sT [0,1,2,3,4,5,6,7,8,9,10] [] bm bm bA bm bt (fun K i O=> ?_);have y:=rz (xl.below GM.out i H);have D:=rz ((i.cell (p:=rN f (o+a)) bl).trans C.out);have G:afv w K:=F.sY rV i;repeat((first|(refine tm rfl rfl rfl bo ?_)|(refine tB rfl rfl rfl ?_)|(refine tH rfl rfl rfl (g+1) V _ (by intro w' hb;obtain⟨⟨z0,z1,z2,z3⟩,_,_,_⟩:=xl.below y.out hb V;have W:=(hb.cell (p:=rN f (o+a)) bl).trans D.out;clear hb;go_simp;first|done|with_reducible rfl) ?_));simp only[Act.put,rH,rC,rF])
  refine sQ ?_;go_wp2;go_ret;exact⟨rfl,G⟩
 ·have j:pk xs a=0:=mJ;rw[j];have E:decide ((a:Int)<n)=false:=by simp;omega
  have L:decide (a<n)=false:=by simp;omega
  clear l;go_enter Tryz.func197,Tryz.ntmps197;go_wp2_with fail;refine sT [0,1,2,3,4,5,6,7,8,9] [] bm bm bA bm bt (fun wd b tj=> ?_);have GM:=rz (xl.below q.out b t);refine ac ?_;refine sQ ?_;go_wp2;go_ret;exact⟨rfl,b⟩
def uO(g:Nat)(A A':aft)(n c m d:Nat)(a e b:Int)(w:World)(i:xl w g A n c a e A' m d)(k:g<w.heap.size):Calls Tryz.prog 198 #[sg g,.int .i64 b] w fun e' w'=>e'=.returned (.tuple #[])/\xl w' g A n c a (if e=0 then b else e) A' m d/\sa g w.heap.size w w':=by
 obtain⟨⟨q,r,t,v⟩,l,o,p⟩:=i;by_cases h:e=0;·subst h;rw[rG rfl];exact ns
 ·rw[rB h];have j:(e==0)=false:=jg;exact ns
def yv(N:Int)(O:Bool)(c:UInt8):Int×Bool:=if N<Int.tdiv (-9223372036854775808+((c.toNat:Int)-48)) 10 then(N,true)else(N*10-((c.toNat:Int)-48),O)
def zO:afs->Int->Bool->Int×Bool×Nat
 | [],N,O=>(N,O,0)
 |c::r,N,O=>if vS c=true then((zO r (yv N O c).1 (yv N O c).2).1,(zO r (yv N O c).1 (yv N O c).2).2.1,(zO r (yv N O c).1 (yv N O c).2).2.2+1)else(N,O,0)
def MJ:∀(l:afs)(N:Int)(O:Bool),(zO l N O).2.2<=l.length
 | [],_,_=>rZ _
 |c::r,N,O=>
 by
  unfold zO;split;·simp only[rP];have:=MJ r (yv N O c).1 (yv N O c).2;omega
  ·simp
def H4{N:Int}{O:Bool}{c:UInt8}(e: -9223372036854775808<=N)(g:N<=0)(b:vS c=true): -9223372036854775808<=(yv N O c).1/\(yv N O c).1<=0:=by
 unfold vS at b;simp only[sd]at b;unfold yv;have i:48<=(c.toNat:Int):=V;have j:(c.toNat:Int)<=57:=V;generalize(c.toNat:Int)=d at*;split;·exact⟨e,g⟩
 ·rename_i h;simp only;have:Int.tdiv (-9223372036854775808+(d-48)) 10= -((9223372036854775808-(d-48))/10):=by rw[show(-9223372036854775808+(d-48):Int)= -(9223372036854775808-(d-48))from V,Int.neg_tdiv,Int.tdiv_eq_ediv_of_nonneg V]
  omega
def x6(xs:afs)(a:Nat):Nat:=if pk xs a=45 then a+1 else a
def OM(xs:afs)(a:Nat):Int×Bool×Nat:=zO (xs.drop (x6 xs a)) 0 false
def Fl(xs:afs)(a:Nat):Nat:=x6 xs a+(OM xs a).2.2
def WL(xs:afs)(a:Nat):Int:=let k:=(OM xs a).2.2;let c:=pk xs (Fl xs a);if k=0\/(1<k/\pk xs (x6 xs a)=48)then 20 else if c=46\/c=101\/c=69 then 22 else if xd c=true then 20 else if(OM xs a).2.1=true\/(pk xs a≠45/\(OM xs a).1= -9223372036854775808)then 22 else 0
def RY(xs:afs)(a:Nat):Int:=if pk xs a=45 then(OM xs a).1 else wrap64 (-(OM xs a).1)
def Y6{xs:afs}{a:Nat}(h:a<xs.length):xs[a]? =some (pk xs a):=by unfold pk;simp[List.getD,h]
def H6{xs:afs}{a:Nat}(h:vS (pk xs a)=true):a<xs.length:=by
 rcases tE a xs.length with b|b;·exact b
 ·unfold pk at h;rw[List.getD,tu b]at h;exact absurd h bH
def Jz{xs:afs}{a:Nat}{N:Int}{O:Bool}(h:vS (pk xs a)=true):zO (xs.drop a) N O=((zO (xs.drop (a+1)) (yv N O (pk xs a)).1 (yv N O (pk xs a)).2).1,(zO (xs.drop (a+1)) (yv N O (pk xs a)).1 (yv N O (pk xs a)).2).2.1,(zO (xs.drop (a+1)) (yv N O (pk xs a)).1 (yv N O (pk xs a)).2).2.2+1):=by have e:=H6 h;obtain⟨b,d⟩:=rQ.1 (Y6 e);rw[rM b,d,zO,rG h]
def JA{xs:afs}{a:Nat}{N:Int}{O:Bool}(h:vS (pk xs a)=false):zO (xs.drop a) N O=(N,O,0):=by
 rcases tE a xs.length with b|b;·obtain⟨d,e⟩:=rQ.1 (Y6 b);rw[rM d,e,zO,rB jg]
 ·rw[tD b];rfl
def vw{n:Int}(b: -9223372036854775808<=n)(d:n<=9223372036854775807):wrap64 n=n:=by unfold wrap64;omega
def TM(w:World)(g:Nat):Nat:=match w.cell? (rN g 1)with|some v=>(intOf v).toNat|none=>0
def yK{w:World}{g:Nat}{A A':aft}{n c m d a:Nat}{e:Int}(h:xl w g A n c (a:Int) e A' m d):TM w g=a:=by unfold TM;rw[h.1.2.1];rfl
def DC(xs:afs)(F k:Nat)(N:Int)(O:Bool):Prop:=zO (xs.drop F) 0 false=((zO (xs.drop (F+k)) N O).1,(zO (xs.drop (F+k)) N O).2.1,(zO (xs.drop (F+k)) N O).2.2+k)
def ON(g:Nat)(A A':aft)(n c m d B a:Nat)(xs:afs)(w:World)(a7:xl w g A n c a 0 A' m d)(ar:g<w.heap.size)(a5:Rd w B A n xs)(q:B<=g)(K:n<=1000000000)(bw:a<=n):Calls Tryz.prog 193 #[sg g] w fun e' w'=>e'=.returned (.int .i64 (RY xs a))/\xl w' g A n c (Fl xs a) (WL xs a) A' m d/\sa g w.heap.size w w':=by
 have d0:=a5.len;by_cases G:pk xs a=45
 ·have aa:x6 xs a=a+1:=by unfold x6;rw[rG G]
  have cZ:a<n:=by
   rcases tE a n with h|h;·exact h
   ·unfold pk at G;rw[List.getD,tu V]at G;exact absurd G bH
  have HF:=rz aa;go_enter Tryz.func193,Tryz.ntmps193;go_wp2_with fail;refine sG (uF g A A' n c m d B a 0 xs w a7 ar a5 q K bw) fun w1 Dw=> ?_
  rw[G];have cy:=a7.below Dw ar;obtain⟨⟨r0,r1,r2,r3⟩,k1,k2,k3⟩:=cy;clear a7 aa;go_upto_block 0 with fail;have b7:xl (w1.setCell ⟨g,1,none⟩ (.int .i64 ((a:Int)+1))) g A n c ((a+1:Nat):Int) 0 A' m d:=⟨⟨bi,bi,bi,bi⟩,bi,bi,bi⟩;have be:sa g w.heap.size w (w1.setCell ⟨g,1,none⟩ (.int .i64 ((a:Int)+1))):=(sa.of Dw).setAt 1 _;have bk:g<(w1.setCell ⟨g,1,none⟩ (.int .i64 ((a:Int)+1))).heap.size:=by have:=Dw.size;simp;omega
  rw[show((a:Int)+1)=((a+1:Nat):Int)from bA]at*;clear r0 r1 r2 r3 k1 k2 k3 Dw;generalize w1.setCell _ _=cE at*;have ch:a+1<=n:=V;generalize a+1=F at*;go_cut [5,6]from 7 to 46 (fun bs bv a9=>∃(k:Nat)(N:Int)(O:Bool),bs=.int .i64 N/\bv=.bool O/\ -9223372036854775808<=N/\N<=0/\F+k<=n/\zO (xs.drop F) 0 false=(N,O,k)/\xl a9 g A n c ((F+k:Nat):Int) 0 A' m d/\sa g w.heap.size w a9/\g<a9.heap.size);case
   first
    =>
     go_wp2_with fail;go_loopw [5,6,7] (fun s b4 _ wr=>∃(k:Nat)(N:Int)(O:Bool),s=.int .i64 N/\b4=.bool O/\ -9223372036854775808<=N/\N<=0/\F+k<=n/\DC xs F k N O/\xl wr g A n c ((F+k:Nat):Int) 0 A' m d/\sa g w.heap.size w wr/\g<wr.heap.size) (fun _ _ _ wr=>n-TM wr g);case atStart=>exact⟨0,0,false,rfl,rfl,V,V,V,rfl,b7,be,bk⟩
     case
      round=>
       obtain⟨k,N,O,rfl,rfl,Z,a0,p,j,x,r,T⟩:=hrel;have S:=a5.off r V q;have a4:=yK x;by_cases l:vS (pk xs (F+k))=true
       ·have ct:F+k<n:=by have:=H6 l;omega
        have t:=Jz (N:=N) (O:=O) l;have an:=H4 (O:=O) Z a0 l;have a3:=l;unfold vS at a3;simp only[sd]at a3;unfold DC at j;rw[t]at j;have W:=rz j;have bO:=rz t;have b8:=rz an;have X:=rz l;have U:=rz a4;have cv:48<=((pk xs (F+k)).toNat:Int):=V;have cx:((pk xs (F+k)).toNat:Int)<=57:=V;have R:=x;clear j t an l a3 a4;go_wp2_with fail;refine sG (uF g A A' n c m d B (F+k) 0 xs wr x T S q K p) fun z vb=> ?_
        have I:=R.below vb T;have b0:=S.sV vb V;have H:g<z.heap.size:=de;have E:=r.trans ((sa.of vb (g:=g)).mono r.size);clear vb;go_wp2_with fail;refine tZ (zi (pk xs (F+k)) z) ?_;rw[X.out];go_wp2_with fail;refine sG (uF g A A' n c m d B (F+k) 0 xs z I H b0 q K p) fun a8 Cv=> ?_
        have bn:=I.below Cv H;have b1:g<a8.heap.size:=jS;have ad:=E.trans ((sa.of Cv (g:=g)).mono E.size);obtain⟨⟨r0,r1,r2,r3⟩,k1,k2,k3⟩:=bn;clear Cv I b0 H E x R r S;have i:DC xs F (k+1) (yv N O (pk xs (F+k))).1 (yv N O (pk xs (F+k))).2:=by unfold DC;rw[W.out,show F+(k+1)=F+k+1 from V,Cs _ 1 k,QU 1 k]
        have o:=b8.out;by_cases aU:N<Int.tdiv (-9223372036854775808+(((pk xs (F+k)).toNat:Int)-48)) 10
        ·have D:yv N O (pk xs (F+k))=(N,true):=by unfold yv;rw[rG aU]
         rw[D]at i o;have Y:=rz i;clear D i;generalize((pk xs (F+k)).toNat:Int)=v at*;go_wp2_with fail;have i:=Y.out;have e5:((F+(k+1):Nat):Int)=(F:Int)+k+1:=V;have C:xl (a8.setCell ⟨g,1,none⟩ (.int .i64 ((F:Int)+k+1))) g A n c ((F+(k+1):Nat):Int) 0 A' m d:=bT;refine⟨⟨k+1,N,true,rfl,rfl,o.1,o.2,V,i,C,ad.setAt 1 _,by simpa using b1⟩,?_⟩;rw[yK C,U.out];omega
        ·have D:yv N O (pk xs (F+k))=(N*10-(((pk xs (F+k)).toNat:Int)-48),O):=by unfold yv;rw[rB aU]
         rw[D]at i o;have Y:=rz i;clear D i;simp only at o;generalize((pk xs (F+k)).toNat:Int)=v at*;have cA:wrap64 (N*10)=N*10:=vw V V;have cR:wrap64 (N*10-(v-48))=N*10-(v-48):=vw V V;go_wp2_with fail;have i:=Y.out;have e5:((F+(k+1):Nat):Int)=(F:Int)+k+1:=V;have C:xl (a8.setCell ⟨g,1,none⟩ (.int .i64 ((F:Int)+k+1))) g A n c ((F+(k+1):Nat):Int) 0 A' m d:=bT;refine⟨⟨k+1,(N*10-(v-48)),O,rfl,rfl,o.1,o.2,V,i,C,ad.setAt 1 _,by simpa using b1⟩,?_⟩;rw[yK C,U.out];omega
       ·have a2:vS (pk xs (F+k))=false:=by simpa using l
        have t:=JA (N:=N) (O:=O) a2;unfold DC at j;rw[t]at j;simp only[tq]at j;have W:=rz j;have X:=rz a2;have R:=x;clear j t l a2 a4;go_wp2_with fail;refine sG (uF g A A' n c m d B (F+k) 0 xs wr x T S q K p) fun z vb=> ?_
        have I:=R.below vb T;have H:g<z.heap.size:=de;have E:=r.trans ((sa.of vb (g:=g)).mono r.size);clear vb;go_wp2_with fail;refine tZ (zi (pk xs (F+k)) z) ?_;rw[X.out];go_wp2_with fail;go_meet;exact⟨k,N,O,rfl,rfl,Z,a0,p,W.out,I,E,H⟩
  case
   rest=>
    obtain⟨k,N,O,rfl,rfl,Z,a0,p,YU,WI,a1,b2⟩:=hcut;have Y1:Fl xs a=F+k:=by unfold Fl OM;rw[HF.out,YU]
    have L:WL xs a=if k=0\/(1<k/\pk xs F=48)then 20 else if pk xs (F+k)=46\/pk xs (F+k)=101\/pk xs (F+k)=69 then 22 else if xd (pk xs (F+k))=true then 20 else if O=true\/(pk xs a≠45/\N= -9223372036854775808)then 22 else 0:=lD;have ab:RY xs a=N:=by unfold RY OM;rw[HF.out,YU];rw[rG G]
    have YY:=a5.off a1 V q;have Jo:=fun(h:F<n)=>YY.at_ (k:=F) h
    obtain⟨zz,a6⟩:=sW (F+k);rw[<-a6]at Y1 L p WI;have bd:=L;have HE:=rz L;have HV:=rz ab;have Th:=rz Y1;have HT2:=rz a6;have ci:F<=zz:=V;clear L bd ab Y1 a6 YU;have az:=fun w=>Br (pk xs zz) w
    have cr:=(pk xs zz).toNat_lt;go_wp2_with fail;refine sG (uF g A A' n c m d B zz 0 xs wc WI b2 YY q K p) fun w7 M=> ?_
    have KJ:=WI.below M b2;have Uw:g<w7.heap.size:=by have:=M.size;omega
    have zM:=a1.trans ((sa.of M (g:=g)).mono a1.size);have bp:=KJ;obtain⟨⟨r0,r1,r2,r3⟩,k1,k2,k3⟩:=bp;by_cases q1:zz=F
    ·have Y7:k=0:=gw;have hq:zz=F:=q1;have b9:((zz:Int)==F)=true:=by simp[q1]
     exact cu
    ·have Y7:¬k=0:=gw;have br:F<n:=V;have b9:((zz:Int)==F)=false:=by simp;omega
     have c9:(zz==F)=false:=by simp;omega
     obtain⟨f,b4,y,rfl,cs,b3,af⟩:=Jo br;have b6:pk xs F=y:=by unfold pk;simp[List.getD,b3]
     have cj:=M.cl af V;clear Jo af b3 YY WI;rw[b6]at HE;have cz:=y.toNat_lt;by_cases q2:1<k/\y=48
     ·have cb:decide ((F:Int)+1<zz)=true:=by have:=HT2.out;simp;omega
      have cc:(F:Int)+1<zz:=gw;exact cq
     ·have Tg:=rz (show¬(k=0\/(1<k/\y=48))from fun h=>h.elim Y7 q2);have bj:(¬(F:Int)+1<zz)\/((F:Int)+1<zz/\¬(y.toNat:Int)=48):=eJ;clear q2;have Ep:=az w7;clear az;have c5:True:=trivial;rcases bj with h|⟨h,cf⟩;all_goals
       generalize cp:pk xs zz=b at*;have bz:=rz (show True from trivial);by_cases c1:b=46;·exact cQ
       by_cases c2:b=101;·exact cN
       by_cases c3:b=69;·exact cO
       have HN3:=rz (show¬(b=46\/b=101\/b=69)from fun h=>h.elim c1 (fun h=>h.elim c2 c3));have c6:((b.toNat:Int)==46)=false:=rA.2 (fun e=>c1 (tU.1 (show b.toNat=46 from V)));have c7:((b.toNat:Int)==101)=false:=rA.2 (fun e=>c2 (tU.1 (show b.toNat=101 from V)));have c8:((b.toNat:Int)==69)=false:=rA.2 (fun e=>c3 (tU.1 (show b.toNat=69 from V)));clear c1 c2 c3;by_cases c4:xd b=true;·exact ca
       have Zf:=rz c4;rw[show xd b=false by simpa using c4]at Ep;clear c4;cases O;·go_wp2_with fail;refine tZ Ep ?_;go_wp2_with fail;go_ret;exact⟨cT,by rw[Th.out,HE.out];rw[rB Tg.out,rB HN3.out,rB Zf.out,rB (by simp[G])];exact KJ,zM⟩
       ·exact ce
 ·have aa:x6 xs a=a:=by unfold x6;rw[rB G]
  have HF:=rz aa;have U:=rz G;have d1:((((pk xs a).toNat:Nat):Int)==45)=false:=rA.2 (fun e=>G (tU.1 (show(pk xs a).toNat=45 from V)));go_enter Tryz.func193,Tryz.ntmps193;go_wp2_with fail;refine sG (uF g A A' n c m d B a 0 xs w a7 ar a5 q K bw) fun w1 Dw=> ?_
  have b7:=a7.below Dw ar;have be:sa g w.heap.size w w1:=sa.of Dw;have bk:g<w1.heap.size:=iz;obtain⟨⟨r0,r1,r2,r3⟩,k1,k2,k3⟩:=a7.below Dw ar;clear a7 aa Dw;generalize ck:(((pk xs a).toNat:Nat):Int)=cW at*;clear ck;go_upto_block 0 with fail;clear r0 r1 r2 r3 k1 k2 k3;generalize w1=cE at*;have ch:a<=n:=V;go_cut [5,6]from 7 to 46 (fun bs bv a9=>∃(k:Nat)(N:Int)(O:Bool),bs=.int .i64 N/\bv=.bool O/\ -9223372036854775808<=N/\N<=0/\a+k<=n/\zO (xs.drop a) 0 false=(N,O,k)/\xl a9 g A n c ((a+k:Nat):Int) 0 A' m d/\sa g w.heap.size w a9/\g<a9.heap.size);case
   first
    =>
     go_wp2_with fail;go_loopw [5,6,7] (fun s b4 _ wr=>∃(k:Nat)(N:Int)(O:Bool),s=.int .i64 N/\b4=.bool O/\ -9223372036854775808<=N/\N<=0/\a+k<=n/\DC xs a k N O/\xl wr g A n c ((a+k:Nat):Int) 0 A' m d/\sa g w.heap.size w wr/\g<wr.heap.size) (fun _ _ _ wr=>n-TM wr g);case atStart=>exact⟨0,0,false,rfl,rfl,V,V,V,rfl,b7,be,bk⟩
     case
      round=>
       obtain⟨k,N,O,rfl,rfl,Z,a0,p,j,x,r,T⟩:=hrel;have S:=a5.off r V q;have a4:=yK x;by_cases l:vS (pk xs (a+k))=true
       ·have ct:a+k<n:=by have:=H6 l;omega
        have t:=Jz (N:=N) (O:=O) l;have an:=H4 (O:=O) Z a0 l;have a3:=l;unfold vS at a3;simp only[sd]at a3;unfold DC at j;rw[t]at j;have W:=rz j;have bO:=rz t;have b8:=rz an;have X:=rz l;have U:=rz a4;have cv:48<=((pk xs (a+k)).toNat:Int):=V;have cx:((pk xs (a+k)).toNat:Int)<=57:=V;have R:=x;clear j t an l a3 a4;go_wp2_with fail;refine sG (uF g A A' n c m d B (a+k) 0 xs wr x T S q K p) fun z vb=> ?_
        have I:=R.below vb T;have b0:=S.sV vb V;have H:g<z.heap.size:=de;have E:=r.trans ((sa.of vb (g:=g)).mono r.size);clear vb;go_wp2_with fail;refine tZ (zi (pk xs (a+k)) z) ?_;rw[X.out];go_wp2_with fail;refine sG (uF g A A' n c m d B (a+k) 0 xs z I H b0 q K p) fun a8 Cv=> ?_
        have bn:=I.below Cv H;have b1:g<a8.heap.size:=jS;have ad:=E.trans ((sa.of Cv (g:=g)).mono E.size);obtain⟨⟨r0,r1,r2,r3⟩,k1,k2,k3⟩:=bn;clear Cv I b0 H E x R r S;have i:DC xs a (k+1) (yv N O (pk xs (a+k))).1 (yv N O (pk xs (a+k))).2:=by unfold DC;rw[W.out,show a+(k+1)=a+k+1 from V,Cs _ 1 k,QU 1 k]
        have o:=b8.out;by_cases aU:N<Int.tdiv (-9223372036854775808+(((pk xs (a+k)).toNat:Int)-48)) 10
        ·have D:yv N O (pk xs (a+k))=(N,true):=by unfold yv;rw[rG aU]
         rw[D]at i o;have Y:=rz i;clear D i;generalize((pk xs (a+k)).toNat:Int)=v at*;go_wp2_with fail;have i:=Y.out;have e5:((a+(k+1):Nat):Int)=(a:Int)+k+1:=V;have C:xl (a8.setCell ⟨g,1,none⟩ (.int .i64 ((a:Int)+k+1))) g A n c ((a+(k+1):Nat):Int) 0 A' m d:=bT;refine⟨⟨k+1,N,true,rfl,rfl,o.1,o.2,V,i,C,ad.setAt 1 _,by simpa using b1⟩,?_⟩;rw[yK C,U.out];omega
        ·have D:yv N O (pk xs (a+k))=(N*10-(((pk xs (a+k)).toNat:Int)-48),O):=by unfold yv;rw[rB aU]
         rw[D]at i o;have Y:=rz i;clear D i;simp only at o;generalize((pk xs (a+k)).toNat:Int)=v at*;have cA:wrap64 (N*10)=N*10:=vw V V;have cR:wrap64 (N*10-(v-48))=N*10-(v-48):=vw V V;go_wp2_with fail;have i:=Y.out;have e5:((a+(k+1):Nat):Int)=(a:Int)+k+1:=V;have C:xl (a8.setCell ⟨g,1,none⟩ (.int .i64 ((a:Int)+k+1))) g A n c ((a+(k+1):Nat):Int) 0 A' m d:=bT;refine⟨⟨k+1,(N*10-(v-48)),O,rfl,rfl,o.1,o.2,V,i,C,ad.setAt 1 _,by simpa using b1⟩,?_⟩;rw[yK C,U.out];omega
       ·have a2:vS (pk xs (a+k))=false:=by simpa using l
        have t:=JA (N:=N) (O:=O) a2;unfold DC at j;rw[t]at j;simp only[tq]at j;have W:=rz j;have X:=rz a2;have R:=x;clear j t l a2 a4;go_wp2_with fail;refine sG (uF g A A' n c m d B (a+k) 0 xs wr x T S q K p) fun z vb=> ?_
        have I:=R.below vb T;have H:g<z.heap.size:=de;have E:=r.trans ((sa.of vb (g:=g)).mono r.size);clear vb;go_wp2_with fail;refine tZ (zi (pk xs (a+k)) z) ?_;rw[X.out];go_wp2_with fail;go_meet;exact⟨k,N,O,rfl,rfl,Z,a0,p,W.out,I,E,H⟩
  case
   rest=>
    obtain⟨k,N,O,rfl,rfl,Z,a0,p,YU,WI,a1,b2⟩:=hcut;have Y1:Fl xs a=a+k:=by unfold Fl OM;rw[HF.out,YU]
    have L:WL xs a=if k=0\/(1<k/\pk xs a=48)then 20 else if pk xs (a+k)=46\/pk xs (a+k)=101\/pk xs (a+k)=69 then 22 else if xd (pk xs (a+k))=true then 20 else if O=true\/(pk xs a≠45/\N= -9223372036854775808)then 22 else 0:=lD;have ab:RY xs a=wrap64 (-N):=by unfold RY OM;rw[HF.out,YU];rw[rB G]
    have YY:=a5.off a1 V q;have Jo:=fun(h:a<n)=>YY.at_ (k:=a) h
    obtain⟨zz,a6⟩:=sW (a+k);rw[<-a6]at Y1 L p WI;have bd:=L;have HE:=rz L;have HV:=rz ab;have Th:=rz Y1;have HT2:=rz a6;have ci:a<=zz:=V;clear L bd ab Y1 a6 YU;have az:=fun w=>Br (pk xs zz) w
    have cr:=(pk xs zz).toNat_lt;go_wp2_with fail;refine sG (uF g A A' n c m d B zz 0 xs wc WI b2 YY q K p) fun w7 M=> ?_
    have KJ:=WI.below M b2;have Uw:g<w7.heap.size:=by have:=M.size;omega
    have zM:=a1.trans ((sa.of M (g:=g)).mono a1.size);have bp:=KJ;obtain⟨⟨r0,r1,r2,r3⟩,k1,k2,k3⟩:=bp;by_cases q1:zz=a
    ·have Y7:k=0:=gw;have hq:zz=a:=q1;have b9:((zz:Int)==a)=true:=by simp[q1]
     exact cu
    ·have Y7:¬k=0:=gw;have br:a<n:=V;have b9:((zz:Int)==a)=false:=by simp;omega
     have c9:(zz==a)=false:=by simp;omega
     obtain⟨f,b4,y,rfl,cs,b3,af⟩:=Jo br;have b6:pk xs a=y:=by unfold pk;simp[List.getD,b3]
     have cj:=M.cl af V;clear Jo af b3 YY WI;rw[b6]at HE;have cz:=y.toNat_lt;by_cases q2:1<k/\y=48
     ·have cb:decide ((a:Int)+1<zz)=true:=by have:=HT2.out;simp;omega
      have cc:(a:Int)+1<zz:=gw;exact cq
     ·have Tg:=rz (show¬(k=0\/(1<k/\y=48))from fun h=>h.elim Y7 q2);have bj:(¬(a:Int)+1<zz)\/((a:Int)+1<zz/\¬(y.toNat:Int)=48):=eJ;clear q2;have Ep:=az w7;clear az;have c5:True:=trivial;rcases bj with h|⟨h,cf⟩;all_goals
       generalize cp:pk xs zz=b at*;have bz:=rz (show True from trivial);by_cases c1:b=46;·exact cQ
       by_cases c2:b=101;·exact cN
       by_cases c3:b=69;·exact cO
       have HN3:=rz (show¬(b=46\/b=101\/b=69)from fun h=>h.elim c1 (fun h=>h.elim c2 c3));have c6:((b.toNat:Int)==46)=false:=rA.2 (fun e=>c1 (tU.1 (show b.toNat=46 from V)));have c7:((b.toNat:Int)==101)=false:=rA.2 (fun e=>c2 (tU.1 (show b.toNat=101 from V)));have c8:((b.toNat:Int)==69)=false:=rA.2 (fun e=>c3 (tU.1 (show b.toNat=69 from V)));clear c1 c2 c3;by_cases c4:xd b=true;·exact ca
       have Zf:=rz c4;rw[show xd b=false by simpa using c4]at Ep;clear c4;cases O
       ·by_cases b5:N= -9223372036854775808
        ·subst b5;go_wp2_with fail;refine tZ Ep ?_;go_wp2_with fail;refine sG (uO g _ A' n c m d (zz:Int) 0 22 w7 KJ Uw) fun w8 ⟨HA,Ou⟩=> ?_
         have Kw:=Ou.mono zM.size;rw[rG rfl]at HA;clear r0 r1 r2 r3 k1 k2 k3;go_wp2_with fail;go_ret;exact⟨cT,by rw[Th.out,HE.out];rw[rB Tg.out,rB HN3.out,rB Zf.out,rG (.inr ⟨by first|exact U.out|(rw[<-b6];exact U.out),ou⟩)];exact HA,zM.trans Kw⟩
        ·have cS:(N== -9223372036854775808)=false:=by simp[b5]
         have bx:=rz b5;clear b5;go_wp2_with fail;refine tZ Ep ?_;go_wp2_with fail;go_ret;exact⟨cT,by rw[Th.out,HE.out];rw[rB Tg.out,rB HN3.out,rB Zf.out,rB (by simp;exact fun _=>bx.out)];exact KJ,zM⟩
       ·exact ce
def OB(a b:Nat)(h:a<2147483648)(hb:b<2147483648):bits .or .i32 (a:Int) (b:Int)=((a|||b:Nat):Int):=by
 show IntKind.i32.wrap ((BitVec.ofInt 32 (a:Int)|||BitVec.ofInt 32 (b:Int)).toNat:Int)=_;have d:(BitVec.ofInt 32 (a:Int)).toNat=a:=by rw[BitVec.toNat_ofInt];omega
 have e:(BitVec.ofInt 32 (b:Int)).toNat=b:=by rw[BitVec.toNat_ofInt];omega
 rw[BitVec.toNat_or,d,e];have g:a|||b<2^31:=Nat.or_lt_two_pow V V;exact bS
def RF(n d:Nat)(h:n<65536)(b:d<16):bits .or .i32 ((n*16:Nat):Int) (d:Int)=((n*16+d:Nat):Int):=by rw[OB _ _ V V];congr 1;have:=Nat.two_pow_add_eq_or_of_lt (i:=4) (show d<2^4 from V) n;rw[Nat.mul_comm n 16];exact this.symm
def Ci:afs:=[48,49,50,51,52,53,54,55,56,57,97,98,99,100,101,102]
def Gg(c:UInt8):Option Nat:=if 48<=c.toNat/\c.toNat<=57 then some (c.toNat-48)else if 97<=c.toNat/\c.toNat<=102 then some (c.toNat-87)else if 65<=c.toNat/\c.toNat<=70 then some (c.toNat-55)else none
def Gh(c:UInt8):UInt8:=if 65<=c.toNat/\c.toNat<=70 then UInt8.ofNat (c.toNat+32)else c
def ZO:∀c:UInt8,Lib.indexByte Ci (Gh c)=match Gg c with|some d=>(d:Int)|none=> -1:=by
 have key:∀k:Fin 256,Lib.indexByte Ci (Gh (UInt8.ofNat k.val))=match Gg (UInt8.ofNat k.val)with|some d=>(d:Int)|none=> -1:=bF
 intro c;have h:=key ⟨c.toNat,c.toNat_lt⟩;simpa using h
def KE{c:UInt8}{d:Nat}(h:Gg c=some d):d<16/\c≠0:=by
 have:∀c:UInt8,∀d,Gg c=some d->d<16/\c≠0:=by
  intro c d h;unfold Gg at h;refine⟨?_,fun e=> ?_⟩
  ·split at h;·injection h;omega
   ·split at h;·injection h;omega
    ·split at h;·injection h;omega
     ·cases h
  ·subst e;simp at h
 exact this c d h
def vI(xs:afs):Nat->Nat->Nat->Int×Nat
 |0,a,v=>(v,a)
 |k+1,a,v=>match Gg (pk xs a)with|some d=>vI xs k (a+1) (v*16+d)|none=>(-1,a)
def Jp(g:Nat)(A A':aft)(n c m d B a:Nat)(e:Int)(xs:afs)(w:World)(E:xl w g A n c a e A' m d)(M:g<w.heap.size)(z:Rd w B A n xs)(x:B<=g)(S:n<=1000000000)(K:a<=n):Calls Tryz.prog 239 #[sg g] w fun e' w'=>e'=.returned (.int .i32 (vI xs 4 a 0).1)/\xl w' g A n c (vI xs 4 a 0).2 e A' m d/\sa g w.heap.size w w':=by
 have a4:=z.len;obtain⟨R,r⟩:=sW (vI xs 4 a 0);rw[<-r];have G:=rz r;have H:=rz E;clear r E;go_enter Tryz.func239,Tryz.ntmps239;go_wp2_with fail;go_loopw [3,4,5,6] (fun v _ _ i wr=>∃(j b u:Nat),i=.int .i64 j/\j<=4/\v=.int .i32 u/\u<16^j/\b<=n/\R=vI xs (4-j) b u/\xl wr g A n c b e A' m d/\sa g w.heap.size w wr/\g<wr.heap.size) (fun _ _ _ i _=>4-(intOf i).toNat);case atStart=>exact⟨0,a,0,rfl,V,rfl,V,K,G.out,H.out,sa.refl _ _ _,M⟩
 case
  round=>
   obtain⟨j,b,u,rfl,a1,rfl,a6,hb,y,t,q,D⟩:=hrel;have C:=z.off q V x;have X:=q.size;have HQ:=rz y;clear y;rcases(show j=4\/j<4 from V)with rfl|a2;·have h:=HQ.out;rw[show vI xs (4-4) b u=((u:Int),b)from rfl]at h;subst h;go_wp2_with fail;go_ret;exact⟨rfl,t,q⟩
   ·have a3:(j:Int)<4:=V;have W:=t;go_wp2_with fail;refine sG (uF g A A' n c m d B b e xs wr t D C x S hb) fun w3 vb=> ?_
    have U:=W.below vb D;have a5:=C.sV vb V;have YZ:g<w3.heap.size:=de;have abK:=q.trans ((sa.of vb (g:=g)).mono X);have WJ:w.heap.size<=w3.heap.size:=de;have N:=ZO (pk xs b);have hvl:=fun d=>KE (c:=pk xs b) (d:=d)
    have hpn:pk xs b≠0->b<n:=fun h=>
     by
      rcases tE b n with p|p;·exact p
      ·exact absurd mJ h
    have T:vI xs (4-j) b u=match Gg (pk xs b)with|some d=>vI xs (4-(j+1)) (b+1) (u*16+d)|none=>(-1,b):=by rw[show 4-j=(4-(j+1))+1 from V];rfl
    have a0:=(pk xs b).toNat_lt;have I:=Tryz.strings_IndexByte ⟨Ci.toArray⟩ ((Gh (pk xs b)).toNat:Int);have L:((((Gh (pk xs b)).toNat:Nat):Int)).toNat.toUInt8=Gh (pk xs b):=bA;have hin:∀w,Calls Tryz.prog 152 #[.string ⟨#[48,49,50,51,52,53,54,55,56,57,97,98,99,100,101,102]⟩,.int .u8 ((Gh (pk xs b)).toNat:Int)] w fun e w'=>e=.returned (.int .i64 (match Gg (pk xs b)with|some d=>(d:Int)|none=> -1))/\w'=w:=fun w=>by have h:=I w;rw[L]at h;rw[<-N];exact h
    have ab0:=U;have a7:HQ=HQ:=rfl;rw[T]at HQ;generalize Z:pk xs b=cc at*;have O:(65<=cc.toNat/\cc.toNat<=70/\((Gh cc).toNat:Int)=(cc.toNat:Int)+32)\/(¬(65<=cc.toNat/\cc.toNat<=70)/\Gh cc=cc):=by
     unfold Gh;by_cases h:65<=cc.toNat/\cc.toNat<=70;·left;rw[rG h];refine⟨h.1,h.2,?_⟩;exact cw
     ·right;rw[rB h];exact⟨h,rfl⟩
    rcases(show(¬65<=cc.toNat/\Gh cc=cc)\/(65<=cc.toNat/\¬cc.toNat<=70/\Gh cc=cc)\/(65<=cc.toNat/\cc.toNat<=70/\((Gh cc).toNat:Int)=(cc.toNat:Int)+32)from by
     rcases O with⟨l,o,h3⟩|⟨l,o⟩;·exact .inr (.inr ⟨l,o,h3⟩)
     ·by_cases h:65<=cc.toNat;·exact .inr (.inl ⟨h,fun p=>l ⟨h,p⟩,o⟩)
      ·exact .inl ⟨h,o⟩)with⟨l,h3⟩|⟨l,o,h3⟩|⟨l,o,h3⟩
    ·have F:¬(65:Int)<=cc.toNat:=V;exact lK
    ·have F:(65:Int)<=cc.toNat:=V;have Y:¬(cc.toNat:Int)<=70:=V;exact lK
    ·have F:(65:Int)<=cc.toNat:=V;have Y:(cc.toNat:Int)<=70:=V;exact lK
end Go.Proofs.YtccjlcadbpinfaaGreatDoor.Tp
namespace Go.Proofs.YtccjlcadbpinfaaGreatDoor.Mem
open ChangeShapes WideShapes ChangeAt RowKit
section
variable{ops:Array Oper}{rest:List Oper}{a:Act}{Q:Exit->Act->World->Prop}{w:World}
end
def Own.setAt{w:World}{b n c:Nat}{A:aft}{xs:afs}(h:Own w b A n c xs){g:Nat}(d:g<b)(i:Nat)(u:Value):Own (w.setCell ⟨g,i,none⟩ u) b A n c xs:=ownsRow_setCell_below h (a:=rN g i) d u
end Go.Proofs.YtccjlcadbpinfaaGreatDoor.Mem
namespace Go.Proofs.YtccjlcadbpinfaaGreatDoor.Tp
open ChangeShapes WideShapes ChangeAt RowKit
open Num Mem Can
def _root_.Go.Proofs.YtccjlcadbpinfaaGreatDoor.Can.vp.setCell{X:Addr->Prop}{B:Nat}(w:World){p:Addr}(u:Value)(b:X p):vp X B w (w.setCell p u):=⟨by simp[World.setCell],fun q _ d=>tg w p q u (fun e=>d (by rw[<-e];exact b)),fun q _ _=>vH _ _ _ _⟩
def CY:afs:=[34,92,47,98,102,110,114,116]
def tW:afs:=[34,92,47,8,12,10,13,9]
def Kq(c:UInt8):Option UInt8:=if Lib.indexByte CY c<0 then none else tW[(Lib.indexByte CY c).toNat]?
def CZ(xs:afs)(a:Nat):Int×Nat:=if 55296<=(vI xs 4 (a+1) 0).1/\(vI xs 4 (a+1) 0).1<56320/\pk xs (vI xs 4 (a+1) 0).2=92/\pk xs ((vI xs 4 (a+1) 0).2+1)=117 then(if Ut.uP (vI xs 4 (a+1) 0).1 (vI xs 4 ((vI xs 4 (a+1) 0).2+2) 0).1=0 then-1 else Ut.uP (vI xs 4 (a+1) 0).1 (vI xs 4 ((vI xs 4 (a+1) 0).2+2) 0).1,(vI xs 4 ((vI xs 4 (a+1) 0).2+2) 0).2)else vI xs 4 (a+1) 0
def xx(xs:afs)(a:Nat):Nat×afs×Int:=match Kq (pk xs a)with
 |some b=>(a+1,[b],0)
 |none=>if pk xs a≠117 then(a,[],20)else if Ut.yR (CZ xs a).1=true then((CZ xs a).2,Ut.uu (CZ xs a).1.toNat,0)else((CZ xs a).2,[],20)
def Og:∀c:UInt8,(Lib.indexByte CY c<0/\Kq c=none)\/(∃i:Nat,Lib.indexByte CY c=i/\i<8/\Kq c=tW[i]?/\c≠0):=by
 have key:∀k:Fin 256,(Lib.indexByte CY (UInt8.ofNat k.val)<0/\Kq (UInt8.ofNat k.val)=none)\/(Lib.indexByte CY (UInt8.ofNat k.val)=((Lib.indexByte CY (UInt8.ofNat k.val)).toNat:Int)/\(Lib.indexByte CY (UInt8.ofNat k.val)).toNat<8/\Kq (UInt8.ofNat k.val)=tW[(Lib.indexByte CY (UInt8.ofNat k.val)).toNat]?/\UInt8.ofNat k.val≠0):=bF;intro c;have h:=key ⟨c.toNat,c.toNat_lt⟩;simp only[xv]at h;rcases h with h|⟨b,d,e,g⟩;·exact .inl h
 ·exact .inr ⟨_,b,d,e,g⟩
def Ch{xs:afs}:∀(k a v:Nat),a<=xs.length->(vI xs k a v).2<=xs.length/\ -1<=(vI xs k a v).1
 |0,a,v,h=>⟨h,by simp only[vI];omega⟩
 |k+1,a,v,h=>
 by
  unfold vI;split
  ·rename_i d b;refine Ch k (a+1) _ ?_;rcases tE a xs.length with h'|h';·omega
   ·exact absurd lF (KE b).2
  ·exact⟨h,bA⟩
def CW(l:afs):Lib.bytesOf (l.map fun x=>(x.toNat:Int))=l:=by
 unfold Lib.bytesOf;rw[List.map_map];conv=>rhs;rw[<-WB l]
 apply LL;intro x _;simp
def Vq{w:World}{B n:Nat}{A:aft}{l:afs}(h:Rd w B A n l):Lib.BytesIn w A n (l.map fun x=>(x.toNat:Int)):=fun k=>
 by
  obtain⟨b,m,e,_,g⟩:=h.2 k;refine⟨b,m,e,fun i j=> ?_⟩;have d:i<l.length:=by rw[h.1];exact j
  have:=g i l[i] (rD d);rw[this];simp[List.getD,d,bc]
def XZ(xs:afs)(a:Nat):Lib.hasPrefix (xs.drop a) [92,117]=true↔xs[a]?.getD 0=92/\xs[a+1]?.getD 0=117:=by
 unfold Lib.hasPrefix;rw[List.isPrefixOf_iff_prefix];constructor
 ·rintro⟨r,i⟩;have b:(xs.drop a)[0]? =some 92:=by rw[<-i];rfl
  have d:(xs.drop a)[1]? =some 117:=by rw[<-i];rfl
  rw[Ar]at b d;rw[sE]at b;rw[b,d];exact bK
 ·rintro⟨b,d⟩;have e:a<xs.length:=by
   rcases tE a xs.length with h|h;·exact h
   ·rw[tu h]at b;exact absurd b bH
  have g:a+1<xs.length:=by
   rcases tE (a+1) xs.length with h|h;·exact h
   ·rw[tu h]at d;exact absurd d bH
  rw[rD e]at b;rw[rD g]at d;refine⟨xs.drop (a+1+1),?_⟩;rw[rM e,rM g];simp only[Option.getD_some]at b d;rw[b,d];rfl
def KC{xs:afs}:∀(k a v:Nat),(vI xs k a v).1<((v+1)*16^k:Nat)
 |0,a,v=>by simp only[vI];omega
 |k+1,a,v=>
 by
  unfold vI;split
  ·rename_i b d;have e:=KC (xs:=xs) k (a+1) (v*16+b);have g:=(KE d).1;have i:(v*16+b+1)*16^k<=(v+1)*16^(k+1):=by rw[QV,Nat.mul_comm (16^k) 16,<-Nat.mul_assoc];exact Nat.mul_le_mul_right _ V
   omega
  ·have:0<(v+1)*16^(k+1):=Nat.mul_pos V (Nat.pow_pos V);exact bl
def GD(A:aft)(k d b:Nat)(N:Int)(ts:afs)(m: -1<=N)(n:N<=1114111)(w:World)(i:Own w b A k d ts)(hb:b<=w.heap.size)(j:k<=1000000000):Calls Tryz.prog 241 #[.slice A k d,.int .i32 N] w fun e w'=>∃A' n' c',e=.returned (.tuple #[.slice A' n' c',.int .i64 (if Ut.yR N=true then 0 else 2)])/\Own w' b A' n' c' (ts++(if Ut.yR N=true then Ut.uu N.toNat else []))/\Below b w w':=by
 by_cases h:Ut.yR N=true;·obtain⟨c,rfl⟩:=uR (show 0<=N from((Ut.BK N).1 h).1);rw[rG h,rG h];refine(Ut.X2 A k d b c ts h w i hb j).mono ?_;rintro e w' ⟨A',n',c',rfl,rfl,l,g⟩;exact⟨A',_,c',rfl,by simpa using l,g⟩
 ·rw[rB h,rB h,sX];refine sG (Ut.X1 A k d N V V eK w) fun w' g=> ?_
  exact⟨A,k,d,rfl,i.below g,g.mono hb⟩
def Oh(g:Nat)(A A':aft)(n c m d B a:Nat)(xs ts:afs)(w:World)(t:xl w g A n c a 0 A' m d)(F:g<w.heap.size)(C:Rd w B A n xs)(r:B<=g)(R:n<=1000000000)(cR:n<=c)(ar:a<=n)(base:Nat)(Ov:g<base)(d8:base<=w.heap.size)(S:Own w base A' m d ts)(hm:m<=1000000000):Calls Tryz.prog 226 #[sg g] w fun e' w'=>e'=.returned (.tuple #[])/\∃b9 cp a7,xl w' g A n c (xx xs a).1 (xx xs a).2.2 b9 cp a7/\Own w' base b9 cp a7 (ts++(xx xs a).2.1)/\sa g base w w':=by
 have dj:=C.len;have M:=fun w=>Tryz.strings_IndexByte ⟨CY.toArray⟩ ((pk xs a).toNat:Int) w
 have b2:((((pk xs a).toNat:Nat):Int)).toNat.toUInt8=pk xs a:=bA;simp only[b2]at M;rcases Og (pk xs a)with⟨a8,L⟩|⟨i,a8,hi8,L,bw⟩
 ·have o:xx xs a=if pk xs a≠117 then(a,[],20)else if Ut.yR (CZ xs a).1=true then((CZ xs a).2,Ut.uu (CZ xs a).1.toNat,0)else((CZ xs a).2,[],20):=by unfold xx;rw[L]
  have q:∀w,Calls Tryz.prog 152 #[.string ⟨#[34,92,47,98,102,110,114,116]⟩,.int .u8 ((pk xs a).toNat:Int)] w fun e w'=>e=.returned (.int .i64 (Lib.indexByte CY (pk xs a)))/\w'=w:=fun w=>M w
  generalize Lib.indexByte CY (pk xs a)=bp at*;clear M b2 L;have d1:decide (0<=bp)=false:=by simp;omega
  have dp:=(pk xs a).toNat_lt;by_cases hu:pk xs a=117
  ·rw[rB (by simp[hu])]at o;have cz:a<n:=by
    rcases tE a n with E|E;·exact E
    ·exact qh
   obtain⟨l,X,j⟩:∃l X,CZ xs a=(l,X):=⟨_,_,rfl⟩;have bO:xx xs a=(X,(if Ut.yR l=true then Ut.uu l.toNat else []),(if Ut.yR l=true then 0 else 20)):=by rw[o,j];simp only;split<;>rfl
   have bn:=rz j;rw[bO];clear bO j;simp only;obtain⟨be,a9⟩:∃be:Int,be=(if Ut.yR l=true then 0 else 20):=⟨_,rfl⟩;obtain⟨d0,an⟩:=sW ((if Ut.yR l=true then Ut.uu l.toNat else []));rw[<-a9,<-an];have HEE:=rz a9;have HYY:=rz an;clear a9 an;have c9:∀w,Calls Tryz.prog 152 #[.string ⟨#[34,92,47,98,102,110,114,116]⟩,.int .u8 117] w fun e w'=>e=.returned (.int .i64 bp)/\w'=w:=fun w=>by have h:=q w;rw[hu]at h;exact h
   go_enter Tryz.func226,Tryz.ntmps226;go_wp2_with fail;refine sG (uF g A A' n c m d B a 0 xs w t F C r R ar) fun w1 Dw=> ?_
   have D:=t.below Dw F;have y:=S.below Dw;have a3:=C.sV Dw V;have a4:base<=w1.heap.size:=iz;have v:sa g base w w1:=sa.of (Dw.mono V);clear Dw;rw[hu];clear q;have q:=c9;go_wp2_with fail;refine tZ (q w1) ?_;go_wp2_with fail;refine sT [0,1,2,3,4,5,6,7,8,9,10,11,12,13] [] bm bm bA bm bt (fun wd hd tj=> ?_);have GM:=rz (xl.below D hd V);have z:=y.below (hd.mono rV);have b4:=a3.sV hd V;have x:=v.trans (sa.of (hd.mono V));have G:base<=wd.heap.size:=V;clear hd tj;refine ac ?_;refine sQ ?_;obtain⟨⟨r0,r1,r2,r3⟩,k1,k2,k3⟩:=GM.out;have aa:=Ch (xs:=xs) 4 (a+1) 0 V;go_wp2_with fail;have I:xl (wd.setCell ⟨g,1,none⟩ (.int .i64 ((a:Int)+1))) g A n c ((a+1:Nat):Int) 0 A' m d:=pI;have T:=z.setAt (Ov) 1 (.int .i64 ((a:Int)+1));have b5:=b4.sV ((Below.refl g wd).setAt 1 (.int .i64 ((a:Int)+1))) r;have N:=x.setAt 1 (.int .i64 ((a:Int)+1));have b8:base<=(wd.setCell ⟨g,1,none⟩ (.int .i64 ((a:Int)+1))).heap.size:=by simpa using G
   clear r0 r1 r2 r3 k1 k2 k3 GM z b4 x G D y a3 v a4 q c9;generalize wd.setCell _ _=cr at*;refine sG (Jp g A A' n c m d B (a+1) 0 xs cr I V b5 r R V) fun cZ ⟨ZW,O⟩=> ?_
   have Rz:=T.off O (Ov);have hr4:=b5.off O V r;have Gf:=N.trans (O.mono V);have hs4:base<=cZ.heap.size:=by have:=O.size;omega
   clear O I T b5 N b8 t C S hu o;obtain⟨N1,ad⟩:=sW ((vI xs 4 (a+1) 0).1);obtain⟨a1,az⟩:=sW ((vI xs 4 (a+1) 0).2);have bz:=KC (xs:=xs) 4 (a+1) 0;rw[<-ad]at aa bz|-;rw[<-az]at aa ZW;simp only[show((0+1)*16^4:Nat)=65536 from bH]at bz;have j:(if 55296<=N1/\N1<56320/\pk xs a1=92/\pk xs (a1+1)=117 then((if Ut.uP N1 (vI xs 4 (a1+2) 0).1=0 then-1 else Ut.uP N1 (vI xs 4 (a1+2) 0).1),(vI xs 4 (a1+2) 0).2)else(N1,a1))=(l,X):=by rw[<-bn.out,ad,az];rfl
   clear bn ad az;obtain⟨d5,d6⟩:=aa;by_cases hsu:55296<=N1/\N1<56320
   ·obtain⟨bs,bv⟩:=hsu;have a0:=XZ xs a1;have br:decide (55296<=N1)=true:=by simp[bs]
    have cy:decide (N1<56320)=true:=by simp[bv]
    have d4:((a1:Nat):Int)<=n:=V;go_wp2_with fail;refine sT [0,1,2,3,4,5,6,7,8,9,10,11,12,13,14,15,16,17,18] [16,17] bm bm bA bm bt (fun wd hd tj=> ?_);have Lt:=rz (xl.below ZW hd V);have KF:=Rz.below (hd.mono rV);have b6:=hr4.sV hd V;have DP:=Gf.trans (sa.of (hd.mono V));have P6:base<=wd.heap.size:=V;clear hd tj ZW Rz Gf hs4 hr4;iterate 15 ((first|(refine tm rfl rfl rfl bo ?_)|(refine tB rfl rfl rfl ?_)|(refine tH rfl rfl rfl (g+1) V _ nT ?_));simp only[Act.put,rH,rC,rF])
    refine PT (p:=a1) rfl rfl rfl rfl rfl b6 V cR (fun cs cc=> ?_);simp only[Act.put,rH,rC,rF];refine tc rfl rfl wd.heap.size V (fun Q1 tv=> ?_);go_wp2_with fail;refine tv _ _ (xn.alloc rV _) ?_;clear tv;have c8:Lib.BytesIn (wd.alloc (.cells #[.int .u8 92,.int .u8 117] 5)) (some ⟨wd.heap.size,0,none⟩) 2 [92,117]:=fun _=>⟨wd.heap.size,0,rfl,fun i df=>by rcases(show i=0\/i=1 from V)with rfl|rfl<;>go_simp⟩
    have c7:=Vq (cc.alloc V (.cells #[.int .u8 92,.int .u8 117] 5));have b3:=Tryz.bytes_HasPrefix_all cs (some ⟨wd.heap.size,0,none⟩) (n-a1) (c-a1) 2 2 _ [92,117] (wd.alloc (.cells #[.int .u8 92,.int .u8 117] 5)) (by rw[tN,sU];omega) rfl V c7 c8;rw[CW,show Lib.bytesOf [92,117]=[92,117]from rfl]at b3;have Hw:=DP.trans (sa.of (((afw wd).al rV (.cells #[.int .u8 92,.int .u8 117] 5)).mono V));have Jq:=KF.alloc (.cells #[.int .u8 92,.int .u8 117] 5);have b7:=b6.alloc V (.cells #[.int .u8 92,.int .u8 117] 5);have SP:=Lt.out.below ((afw wd).al rV (.cells #[.int .u8 92,.int .u8 117] 5)) V;have Y0:base<=(wd.alloc (.cells #[.int .u8 92,.int .u8 117] 5)).heap.size:=by simp;omega
    have ch:wd.heap.size<=(wd.alloc (.cells #[.int .u8 92,.int .u8 117] 5)).heap.size:=bA;clear c8 c7 cc Lt KF DP b6;generalize wd.alloc _=w5 at*;refine tc rfl rfl wd.heap.size rV (fun Q1 tv=> ?_);go_wp2_with fail;refine tZ b3 ?_;go_wp2_with fail;refine tv _ _ xn ?_;clear tv b3;generalize Lib.hasPrefix (xs.drop a1) [92,117]=cv at*;refine ae ?_;refine sQ ?_;have KF:=Jq;have DP:=Hw;have P6:=Y0;have Lt:=rz SP;cases cv
    ·have cb:¬(55296<=N1/\N1<56320/\pk xs a1=92/\pk xs (a1+1)=117):=fun h=>by have:=a0.2 ⟨h.2.2.1,h.2.2.2⟩;cases this
     rw[rB cb]at j;injection j with e1 e2;subst e1 e2;clear cb a0 Jq Hw Y0 SP b7 ch;obtain⟨⟨r0,r1,r2,r3⟩,k1,k2,k3⟩:=Lt.out;have IQ:base<=w5.heap.size:=P6;have DQ:=GD A' m d base N1 ts V V w5 KF IQ hm;exact lL
    ·obtain⟨p1,p2⟩:=a0.1 rfl;have ck:55296<=N1/\N1<56320/\pk xs a1=92/\pk xs (a1+1)=117:=⟨bs,bv,p1,p2⟩;rw[rG ck]at j;injection j with e1 e2;have d7:a1+1<n:=by
      rcases tE (a1+1) n with h|h;·exact h
      ·rw[tu V]at p2;exact absurd p2 bH
     have ab:=Ch (xs:=xs) 4 (a1+2) 0 V;have bx:=KC (xs:=xs) 4 (a1+2) 0;simp only[show((0+1)*16^4:Nat)=65536 from bH]at bx;clear ck a0 p1 p2;obtain⟨a6,af⟩:=sW ((vI xs 4 (a1+2) 0).1);obtain⟨a2,aU⟩:=sW ((vI xs 4 (a1+2) 0).2);rw[<-af]at ab bx e1;rw[<-aU]at ab e2;subst e2;have U:=rz e1;have bk:=rz af;have bj:=rz aU;obtain⟨ds,dx⟩:=ab;clear e1 af aU;obtain⟨⟨r0,r1,r2,r3⟩,k1,k2,k3⟩:=Lt.out;go_wp2_with fail;have bd:xl (w5.setCell ⟨g,1,none⟩ (.int .i64 ((a1:Int)+2))) g A n c ((a1+2:Nat):Int) 0 A' m d:=by rw[show((a1+2:Nat):Int)=(a1:Int)+2 from V];exact lP
     have P5:=KF.setAt (Ov) 1 (.int .i64 ((a1:Int)+2));have cf:=b7.sV ((Below.refl g w5).setAt 1 (.int .i64 ((a1:Int)+2))) r;have zM:=DP.setAt 1 (.int .i64 ((a1:Int)+2));have cW:base<=(w5.setCell ⟨g,1,none⟩ (.int .i64 ((a1:Int)+2))).heap.size:=by simpa using P6
     clear r0 r1 r2 r3 k1 k2 k3 Lt SP KF Jq b7 DP Hw P6 Y0 ch;generalize w5.setCell _ _=w7 at*;refine sG (Jp g A A' n c m d B (a1+2) 0 xs w7 bd V cf r R V) fun H ⟨cj,Z⟩=> ?_
     rw[<-bk.out]at*;rw[<-bj.out]at cj;have KF:=P5.off Z (Ov);have DP:=zM.trans (Z.mono V);have P6:base<=H.heap.size:=by have:=Z.size;omega
     clear Z bd P5 cf zM cW bk bj;have Lt:=rz cj;go_wp2_with fail;refine tZ (Ut.Vj N1 a6 V V V V H) ?_;have d9:=Ut.aaG N1 a6;generalize Ut.uP N1 a6=W at*;by_cases a5:W=0
     ·rw[rG a5]at U;obtain rfl:=U.out;subst a5;obtain⟨⟨r0,r1,r2,r3⟩,k1,k2,k3⟩:=Lt.out;have IQ:base<=H.heap.size:=P6;have DQ:=GD A' m d base (-1) ts V V H KF IQ hm;go_wp2_with fail;cases PZ:Ut.yR (-1);·exact pl
      ·exact lO
     ·rw[rB a5]at U;obtain rfl:=U.out;have d3:(W==0)=false:=by simp[a5]
      obtain⟨⟨r0,r1,r2,r3⟩,k1,k2,k3⟩:=Lt.out;have IQ:base<=H.heap.size:=P6;have DQ:=GD A' m d base W ts V V H KF IQ hm;go_wp2_with fail;cases PZ:Ut.yR W;·exact pl
      ·exact lO
   ·rw[rB (fun h=>hsu ⟨h.1,h.2.1⟩)]at j;injection j with e1 e2;subst e1 e2;have cS:(¬55296<=N1)\/(55296<=N1/\¬N1<56320):=V;rcases cS with h|⟨h,E⟩
    ·have br:decide (55296<=N1)=false:=by simp;omega
     exact pn
    ·have br:decide (55296<=N1)=true:=jg;have cy:decide (N1<56320)=false:=by simp;omega
     exact pn
  ·rw[rG hu]at o;rw[o];simp only[sX];have dr:(((pk xs a).toNat:Int) !=117)=true:=bne_iff_ne.2 (fun e=>hu (tU.1 (show(pk xs a).toNat=117 from V)));go_enter Tryz.func226,Tryz.ntmps226;go_wp2_with fail;refine sG (uF g A A' n c m d B a 0 xs w t F C r R ar) fun w1 Dw=> ?_
   have D:=t.below Dw F;have y:=S.below Dw;have a3:=C.sV Dw V;have a4:base<=w1.heap.size:=iz;have v:sa g base w w1:=sa.of (Dw.mono V);clear Dw;clear hu o;generalize cA:(((pk xs a).toNat:Nat):Int)=cx at*;clear cA;go_wp2_with fail;refine tZ (q w1) ?_;go_wp2_with fail;refine sT [0,1,2,3,4,5,6,7,8,9,10,11,12,13] [] bm bm bA bm bt (fun wd hd tj=> ?_);have GM:=rz (xl.below D hd V);have z:=y.below (hd.mono rV);have b4:=a3.sV hd V;have x:=v.trans (sa.of (hd.mono V));have G:base<=wd.heap.size:=V;clear hd tj;refine ac ?_;refine sQ ?_;go_wp2_with fail;refine sG (uO g A A' n c m d (a:Int) 0 20 wd GM.out V) fun w5 ⟨ci,Cv⟩=> ?_
   rw[rG rfl]at ci;go_wp2_with fail;refine sc (tR rfl _ _ _) rfl ?_;exact⟨rfl,A',m,d,ci,z.off Cv (Ov),x.trans (Cv.mono V)⟩
 ·have cz:a<n:=by
   rcases tE a n with E|E;·exact E
   ·exact absurd mJ bw
  obtain⟨b,b1⟩:∃b,tW[i]? =some b:=⟨tW[i]' gZ,rD gZ⟩;have o:xx xs a=(a+1,[b],0):=by unfold xx;rw[L,b1]
  rw[o];simp only;have b0:=Ki tW i (by simp[tW,ByteArray.size];omega);have c4:tW[i]' gZ=b:=by have:=rQ.1 b1;exact this.2
  rw[c4]at b0;have q:∀w,Calls Tryz.prog 152 #[.string ⟨#[34,92,47,98,102,110,114,116]⟩,.int .u8 ((pk xs a).toNat:Int)] w fun e w'=>e=.returned (.int .i64 (i:Int))/\w'=w:=fun w=>by have h:=M w;rw[a8]at h;exact h
  have c3:(⟨#[34,92,47,8,12,10,13,9]⟩:ByteArray)[i]'(by simp[ByteArray.size];omega)=b:=b0;have d2:decide ((a:Int)<n)=true:=by simp;omega
  have a7:decide (a<n)=true:=by simp;omega
  have di:∀w,(Instr.index 9 (.string ⟨#[34,92,47,8,12,10,13,9]⟩) (.int .i64 (i:Int))).run Tryz.prog w=.ok (.int .u8 (b.toNat:Int)) w:=fun w=>
   by
    have:=c3;rcases(show i=0\/i=1\/i=2\/i=3\/i=4\/i=5\/i=6\/i=7 from V)with rfl|rfl|rfl|rfl|rfl|rfl|rfl|rfl
    ·obtain rfl:b=34:=by rw[<-this];rfl
     have key:∀w,(Instr.index 9 (.string ⟨#[34,92,47,8,12,10,13,9]⟩) (.int .i64 0)).run Tryz.prog w=.ok (.int .u8 34) w:=fun _=>bm
     exact key w
    ·obtain rfl:b=92:=by rw[<-this];rfl
     have key:∀w,(Instr.index 9 (.string ⟨#[34,92,47,8,12,10,13,9]⟩) (.int .i64 1)).run Tryz.prog w=.ok (.int .u8 92) w:=fun _=>bm
     exact key w
    ·obtain rfl:b=47:=by rw[<-this];rfl
     have key:∀w,(Instr.index 9 (.string ⟨#[34,92,47,8,12,10,13,9]⟩) (.int .i64 2)).run Tryz.prog w=.ok (.int .u8 47) w:=fun _=>bm
     exact key w
    ·obtain rfl:b=8:=by rw[<-this];rfl
     have key:∀w,(Instr.index 9 (.string ⟨#[34,92,47,8,12,10,13,9]⟩) (.int .i64 3)).run Tryz.prog w=.ok (.int .u8 8) w:=fun _=>bm
     exact key w
    ·obtain rfl:b=12:=by rw[<-this];rfl
     have key:∀w,(Instr.index 9 (.string ⟨#[34,92,47,8,12,10,13,9]⟩) (.int .i64 4)).run Tryz.prog w=.ok (.int .u8 12) w:=fun _=>bm
     exact key w
    ·obtain rfl:b=10:=by rw[<-this];rfl
     have key:∀w,(Instr.index 9 (.string ⟨#[34,92,47,8,12,10,13,9]⟩) (.int .i64 5)).run Tryz.prog w=.ok (.int .u8 10) w:=fun _=>bm
     exact key w
    ·obtain rfl:b=13:=by rw[<-this];rfl
     have key:∀w,(Instr.index 9 (.string ⟨#[34,92,47,8,12,10,13,9]⟩) (.int .i64 6)).run Tryz.prog w=.ok (.int .u8 13) w:=fun _=>bm
     exact key w
    ·obtain rfl:b=9:=by rw[<-this];rfl
     have key:∀w,(Instr.index 9 (.string ⟨#[34,92,47,8,12,10,13,9]⟩) (.int .i64 7)).run Tryz.prog w=.ok (.int .u8 9) w:=fun _=>bm
     exact key w
  clear M b2 a8 L bw o b1 b0 c4 c3;go_enter Tryz.func226,Tryz.ntmps226;go_wp2_with fail;refine sG (uF g A A' n c m d B a 0 xs w t F C r R ar) fun w1 Dw=> ?_
  go_wp2_with fail;refine tZ (q w1) ?_;have D:=t.below Dw F;have y:=S.below Dw;have a4:base<=w1.heap.size:=iz;have v:sa g base w w1:=sa.of (Dw.mono V);clear t S q Dw;generalize pk xs a=cx at*;go_wp2_with fail;refine sT [0,1,2,3,4,5,6,7,8,9,10,11,12,13] [] bm bm bA bm bt (fun wd hd tj=> ?_);have GM:=rz (xl.below D hd V);have z:=y.below (hd.mono rV);have x:=v.trans (sa.of (hd.mono V));have G:base<=wd.heap.size:=V;clear hd tj D y v a4;refine ac ?_;refine sQ ?_;obtain⟨⟨r0,r1,r2,r3⟩,k1,k2,k3⟩:=GM.out;go_wp2_with fail;have I:xl (wd.setCell ⟨g,1,none⟩ (.int .i64 ((a:Int)+1))) g A n c ((a+1:Nat):Int) 0 A' m d:=pI;have T:=z.setAt (Ov) 1 (.int .i64 ((a:Int)+1));have N:=x.setAt 1 (.int .i64 ((a:Int)+1));have b8:base<=(wd.setCell ⟨g,1,none⟩ (.int .i64 ((a:Int)+1))).heap.size:=by simpa using G
  clear r0 r1 r2 r3 k1 k2 k3 GM z x G;generalize wd.setCell _ _=cr at*;refine sR (K:=Below) Below.keeps (sA.of [0,1,2,3,5,6] (.fork 4 (sA.of [7,8,9,10,11] .nil) 7 (sA.of [4,8,9,10,11] .nil))) [4,7,8,11] bm bm bF bm bt (fun we Y cE=> ?_);have ct:=I.below Y V;have Rz:=T.below Y;have Gf:=N.trans (sa.of (Y.mono V));have hs4:base<=we.heap.size:=V;have dd:g<we.heap.size:=V;clear Y cE I T N b8;refine ah ?_;obtain⟨⟨r0,r1,r2,r3⟩,k1,k2,k3⟩:=ct;refine yr rfl rfl 0 rV (fun Q1 tv=> ?_) (fun Q1 tv=> ?_);·go_wp2_with fail;refine tv _ _ xn ?_;clear tv;refine se rfl rfl 0 rV (fun Q1 tv=> ?_);go_wp2_with fail;refine tv _ _ (xn.alloc (sb _) _) ?_;exact l8
  ·go_wp2_with fail;refine tv _ _ (xn.alloc (sb _) _) ?_;clear tv;refine se rfl rfl 0 rV (fun Q1 tv=> ?_);go_wp2_with fail;refine tv _ _ xn ?_;exact l8
