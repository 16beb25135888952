import Derived.Test.YtccjlcadbpinfaaGreatDoorX3
import Derived.Laws.BitsLemmas
import Derived.Laws.CopyOwn
import Derived.Laws.OwnMore
set_option linter.all false
set_option maxRecDepth 100000
set_option maxHeartbeats 1000000
namespace Go.Proofs.YtccjlcadbpinfaaGreatDoor.Ut
open ChangeShapes WideShapes ChangeAt RowKit
open Num Mem Can
def ZS(A:acN)(k d b c:Nat)(xs:acM)(D:0<=c)(E:c<=127)(i:yv c=true)(w:World)(n:Own w b A k d xs)(g:b<=w.heap.size)(F:k<=1000000000):Calls Tryz.prog 241 #[.slice A k d,.int .i32 c] w fun e w'=>∃A' c',e=.returned (.tuple #[.slice A' (k+1) c',.int .i64 0])/\Own w' b A' (k+1) c' (xs++tW c)/\Below b w w':=by
 have r:=rq i;have o:tW c=[UInt8.ofNat (c)]:=by unfold tW;rw[rv V]
 have v:=rq o;have p:((UInt8.ofNat (c)).toNat:Int)=((c:Nat):Int):=ca;have HX0:=rq p;clear i o p;have l:decide ((128:Int)<=(c:Int))=false:=rF V;have t:=rq l;clear l;go_enter Gs,Ez;go_wp2_with fail;refine(xD c V V _).mono ?_;rintro e w' ⟨rfl,rfl⟩;rw[r.out];go_wp2_with fail;refine Kx 4 ?_;rw[xM];go_wp2_with fail;go_quiet ((go_at_call 247;first|exact vG (AG _)|exact wm (AG _)));try rw[t.out]
 have y:∀m,Own ((w.alloc (.cells #[.int .i32 (c:Int)] 21)).drewN m) b A k d xs:=fun m=>(n.alloc _).drewN m
 have z:∀m,Bx ((w.alloc (.cells #[.int .i32 (c:Int)] 21)).drewN m) A w.heap.size (.int .i32 (c:Int)):=fun m=>(Bx.new n _ _).drewN m
 have x:∀m,Below b w ((w.alloc (.cells #[.int .i32 (c:Int)] 21)).drewN m):=fun m=>(vK.al g _).drewN m
 go_wp2_with(at_builtin;go_loud (refine xI rfl rfl ((y _).alloc _) rfl (vj _ (UInt8.ofNat (c)) _ _ bi ju) V (by simp;omega) ((z _).alloc _) ?_);intro q c1 w1 C B H);have j:Below b w w1:=((x _).al g _).trans B;have G:=j.size;go_ret2;refine⟨q,c1,rfl,?_,j⟩;rw[v.out];simpa[rX]using C
def ZT(A:acN)(k i b c:Nat)(xs:acM)(M:128<=c)(N:c<=2047)(l:yv c=true)(w:World)(p:Own w b A k i xs)(j:b<=w.heap.size)(O:k<=1000000000):Calls Tryz.prog 241 #[.slice A k i,.int .i32 c] w fun e w'=>∃A' c',e=.returned (.tuple #[.slice A' (k+2) c',.int .i64 0])/\Own w' b A' (k+2) c' (xs++tW c)/\Below b w w':=by
 have v:=rq l;have q:tW c=[UInt8.ofNat (192+c/64),UInt8.ofNat (128+c%64)]:=by unfold tW;rw[ru V];rw[rv V]
 have z:=rq q;have r:((UInt8.ofNat (192+c/64)).toNat:Int)=((192+c/64:Nat):Int):=ca;have HX0:=rq r;have g:((UInt8.ofNat (128+c%64)).toNat:Int)=((128+c%64:Nat):Int):=ca;have B:=rq g;clear l q r g;have d:decide ((128:Int)<=(c:Int))=true:=rP V;have x:=rq d;clear d;have o:decide ((2048:Int)<=(c:Int))=false:=rF V;have y:=rq o;clear o;go_enter Gs,Ez;go_wp2_with fail;refine(xD c V V _).mono ?_;rintro e w' ⟨rfl,rfl⟩;rw[v.out];go_wp2_with fail;refine Kx 4 ?_;rw[xM];go_wp2_with fail;go_quiet ((go_at_call 247;first|exact vG (AG _)|exact wm (AG _)));try rw[x.out]
 go_wp2_with fail;rw[xM];go_wp2_with fail;go_quiet ((go_at_call 247;first|exact vG (C1 _)|exact wm (C1 _)));try rw[y.out]
 have D:∀m,Own ((w.alloc (.cells #[.int .i32 (c:Int)] 21)).drewN m) b A k i xs:=fun m=>(p.alloc _).drewN m
 have E:∀m,Bx ((w.alloc (.cells #[.int .i32 (c:Int)] 21)).drewN m) A w.heap.size (.int .i32 (c:Int)):=fun m=>(Bx.new p _ _).drewN m
 have C:∀m,Below b w ((w.alloc (.cells #[.int .i32 (c:Int)] 21)).drewN m):=fun m=>(vK.al j _).drewN m
 go_wp2_with(at_builtin;go_loud (refine xI rfl rfl ((D _).alloc _) rfl (vj _ (UInt8.ofNat (192+c/64)) _ _ bi ju) V (by simp;omega) ((E _).alloc _) ?_);intro L c1 w1 H F g);have n:Below b w w1:=((C _).al j _).trans F;have R:=n.size;refine(NY w.heap.size c V w1 g.cell).mono ?_;rintro e w' ⟨rfl,rfl⟩;go_wp2_with(at_builtin;go_loud (refine xI rfl rfl ((H).alloc _) rfl (vj _ (UInt8.ofNat (128+c%64)) _ _ bi (by rw[B.out]<;>omega)) V (by simp;omega) ((g).alloc _) ?_);intro t c2 K I G T);have d:Below b w K:=(n.al V _).trans G;have S:=d.size;go_ret2;refine⟨t,c2,rfl,?_,d⟩;rw[z.out];simpa[rX]using I
def ZU(A:acN)(k l b c:Nat)(xs:acM)(Y:2048<=c)(Z:c<=65535)(o:yv c=true)(w:World)(r:Own w b A k l xs)(n:b<=w.heap.size)(a0:k<=1000000000):Calls Tryz.prog 241 #[.slice A k l,.int .i32 c] w fun e w'=>∃A' c',e=.returned (.tuple #[.slice A' (k+3) c',.int .i64 0])/\Own w' b A' (k+3) c' (xs++tW c)/\Below b w w':=by
 have z:=rq o;have t:tW c=[UInt8.ofNat (224+c/4096),UInt8.ofNat (128+c/64%64),UInt8.ofNat (128+c%64)]:=by unfold tW;rw[ru V];rw[ru V];rw[rv V]
 have E:=rq t;have v:((UInt8.ofNat (224+c/4096)).toNat:Int)=((224+c/4096:Nat):Int):=ca;have HX0:=rq v;have i:((UInt8.ofNat (128+c/64%64)).toNat:Int)=((128+c/64%64:Nat):Int):=ca;have F:=rq i;have j:((UInt8.ofNat (128+c%64)).toNat:Int)=((128+c%64:Nat):Int):=ca;have G:=rq j;clear o t v i j;have d:decide ((128:Int)<=(c:Int))=true:=rP V;have B:=rq d;clear d;have g:decide ((2048:Int)<=(c:Int))=true:=rP V;have C:=rq g;clear g;have q:decide ((65536:Int)<=(c:Int))=false:=rF V;have D:=rq q;clear q;go_enter Gs,Ez;go_wp2_with fail;refine(xD c V V _).mono ?_;rintro e w' ⟨rfl,rfl⟩;rw[z.out];go_wp2_with fail;refine Kx 4 ?_;rw[xM];go_wp2_with fail;go_quiet ((go_at_call 247;first|exact vG (AG _)|exact wm (AG _)));try rw[B.out]
 go_wp2_with fail;rw[xM];go_wp2_with fail;go_quiet ((go_at_call 247;first|exact vG (C1 _)|exact wm (C1 _)));try rw[C.out]
 go_wp2_with fail;rw[xM];go_wp2_with fail;go_quiet ((go_at_call 247;first|exact vG (FT _)|exact wm (FT _)));try rw[D.out]
 have K:∀m,Own ((w.alloc (.cells #[.int .i32 (c:Int)] 21)).drewN m) b A k l xs:=fun m=>(r.alloc _).drewN m
 have L:∀m,Bx ((w.alloc (.cells #[.int .i32 (c:Int)] 21)).drewN m) A w.heap.size (.int .i32 (c:Int)):=fun m=>(Bx.new r _ _).drewN m
 have I:∀m,Below b w ((w.alloc (.cells #[.int .i32 (c:Int)] 21)).drewN m):=fun m=>(vK.al n _).drewN m
 go_wp2_with(at_builtin;go_loud (refine xI rfl rfl ((K _).alloc _) rfl (vj _ (UInt8.ofNat (224+c/4096)) _ _ bi ju) V (by simp;omega) ((L _).alloc _) ?_);intro W c1 w1 R M i);have p:Below b w w1:=((I _).al n _).trans M;have a1:=p.size;refine(TS w.heap.size c V w1 i.cell).mono ?_;rintro e w' ⟨rfl,rfl⟩;go_wp2_with(at_builtin;go_loud (refine xI rfl rfl ((R).alloc _) rfl (vj _ (UInt8.ofNat (128+c/64%64)) _ _ bi (by rw[F.out]<;>omega)) V (by simp;omega) ((i).alloc _) ?_);intro X c2 x S N j);have d:Below b w x:=(p.al V _).trans N;have a2:=d.size;refine(NY w.heap.size c V x j.cell).mono ?_;rintro e w' ⟨rfl,rfl⟩;go_wp2_with(at_builtin;go_loud (refine xI rfl rfl ((S).alloc _) rfl (vj _ (UInt8.ofNat (128+c%64)) _ _ bi (by rw[G.out]<;>omega)) V (by simp;omega) ((j).alloc _) ?_);intro y H U T O a4);have g:Below b w U:=(d.al V _).trans O;have a3:=g.size;go_ret2;refine⟨y,H,rfl,?_,g⟩;rw[E.out];simpa[rX]using T
def ZV(A:acN)(k o b c:Nat)(xs:acM)(a5:65536<=c)(a6:c<=1114111)(q:yv c=true)(w:World)(t:Own w b A k o xs)(p:b<=w.heap.size)(a7:k<=1000000000):Calls Tryz.prog 241 #[.slice A k o,.int .i32 c] w fun e w'=>∃A' c',e=.returned (.tuple #[.slice A' (k+4) c',.int .i64 0])/\Own w' b A' (k+4) c' (xs++tW c)/\Below b w w':=by
 have C:=rq q;have v:tW c=[UInt8.ofNat (240+c/262144),UInt8.ofNat (128+c/4096%64),UInt8.ofNat (128+c/64%64),UInt8.ofNat (128+c%64)]:=by unfold tW;rw[ru V];rw[ru V];exact nK
 have G:=rq v;have x:((UInt8.ofNat (240+c/262144)).toNat:Int)=((240+c/262144:Nat):Int):=ca;have HX0:=rq x;have j:((UInt8.ofNat (128+c/4096%64)).toNat:Int)=((128+c/4096%64:Nat):Int):=ca;have H:=rq j;have l:((UInt8.ofNat (128+c/64%64)).toNat:Int)=((128+c/64%64:Nat):Int):=ca;have I:=rq l;have n:((UInt8.ofNat (128+c%64)).toNat:Int)=((128+c%64:Nat):Int):=ca;have K:=rq n;clear q v x j l n;have d:decide ((128:Int)<=(c:Int))=true:=rP V;have D:=rq d;clear d;have g:decide ((2048:Int)<=(c:Int))=true:=rP V;have E:=rq g;clear g;have i:decide ((65536:Int)<=(c:Int))=true:=rP V;have F:=rq i;clear i;go_enter Gs,Ez;go_wp2_with fail;refine(xD c V V _).mono ?_;rintro e w' ⟨rfl,rfl⟩;rw[C.out];go_wp2_with fail;refine Kx 4 ?_;rw[xM];go_wp2_with fail;go_quiet ((go_at_call 247;first|exact vG (AG _)|exact wm (AG _)));try rw[D.out]
 go_wp2_with fail;rw[xM];go_wp2_with fail;go_quiet ((go_at_call 247;first|exact vG (C1 _)|exact wm (C1 _)));try rw[E.out]
 go_wp2_with fail;rw[xM];go_wp2_with fail;go_quiet ((go_at_call 247;first|exact vG (FT _)|exact wm (FT _)));try rw[F.out]
 go_wp2_with fail;rw[xM];go_wp2_with fail;go_quiet (fail);have N:∀m,Own ((w.alloc (.cells #[.int .i32 (c:Int)] 21)).drewN m) b A k o xs:=fun m=>(t.alloc _).drewN m
 have O:∀m,Bx ((w.alloc (.cells #[.int .i32 (c:Int)] 21)).drewN m) A w.heap.size (.int .i32 (c:Int)):=fun m=>(Bx.new t _ _).drewN m
 have M:∀m,Below b w ((w.alloc (.cells #[.int .i32 (c:Int)] 21)).drewN m):=fun m=>(vK.al p _).drewN m
 go_wp2_with(at_builtin;go_loud (refine xI rfl rfl ((N _).alloc _) rfl (vj _ (UInt8.ofNat (240+c/262144)) _ _ bi ju) V (by simp;omega) ((O _).alloc _) ?_);intro a1 c1 w1 W R j);have r:Below b w w1:=((M _).al p _).trans R;have a8:=r.size;refine(Yd w.heap.size c V w1 j.cell).mono ?_;rintro e w' ⟨rfl,rfl⟩;go_wp2_with(at_builtin;go_loud (refine xI rfl rfl ((W).alloc _) rfl (vj _ (UInt8.ofNat (128+c/4096%64)) _ _ bi (by rw[H.out]<;>omega)) V (by simp;omega) ((j).alloc _) ?_);intro a2 c2 y X S l);have d:Below b w y:=(r.al V _).trans S;have a9:=d.size;refine(TS w.heap.size c V y l.cell).mono ?_;rintro e w' ⟨rfl,rfl⟩;go_wp2_with(at_builtin;go_loud (refine xI rfl rfl ((X).alloc _) rfl (vj _ (UInt8.ofNat (128+c/64%64)) _ _ bi (by rw[I.out]<;>omega)) V (by simp;omega) ((l).alloc _) ?_);intro a3 a4 z Y T n);have g:Below b w z:=(d.al V _).trans T;have aa:=g.size;refine(NY w.heap.size c V z n.cell).mono ?_;rintro e w' ⟨rfl,rfl⟩;go_wp2_with(at_builtin;go_loud (refine xI rfl rfl ((Y).alloc _) rfl (vj _ (UInt8.ofNat (128+c%64)) _ _ bi (by rw[K.out]<;>omega)) V (by simp;omega) ((n).alloc _) ?_);intro B L a0 Z U ac);have i:Below b w a0:=(g.al V _).trans U;have ab:=i.size;go_ret2;refine⟨B,L,rfl,?_,i⟩;rw[G.out];simpa[rX]using Z
def Kt(h l:Int):Bool:=decide (55296<=h)&&decide (h<56320)&&decide (56320<=l)&&decide (l<57344)
def uP(h l:Int):Int:=if Kt h l=true then 65536+(h-55296)*1024+l-56320 else 0
def Mu(h l:Int):Kt h l=true↔55296<=h/\h<56320/\56320<=l/\l<57344:=by unfold Kt;simp[and_assoc]
def Xe{h l:Int}(b:¬(55296<=h/\h<56320/\56320<=l/\l<57344)):Kt h l=false/\uP h l=0:=by
 have e:¬Kt h l=true:=fun e=>b ((Mu h l).1 e)
 exact⟨by simpa using e,by unfold uP;rw[ru e]⟩
def Us{h l:Int}(b:55296<=h/\h<56320/\56320<=l/\l<57344):Kt h l=true/\uP h l=65536+(h-55296)*1024+l-56320:=by have e:=(Mu h l).2 b;exact⟨e,by unfold uP;rw[rv e]⟩
def TR(h l:Int)(o: -2147483648<=h)(p:h<=2147483647)(q: -2147483648<=l)(t:l<=2147483647)(w:World):Calls Tryz.prog 240 #[.int .i32 h,.int .i32 l] w fun e w'=>e=.returned (.tuple #[.int .i32 (uP h l),.bool (Kt h l)])/\w=w':=by
 by_cases b:55296<=h/\h<56320/\56320<=l/\l<57344
 ·obtain⟨d,g⟩:=Us b;obtain⟨i,j,k,m⟩:=b;generalize Kt h l=n at d|-;generalize uP h l=r at g|-;try subst d
  subst g;exact mJ
 ·obtain⟨d,g⟩:=Xe b;generalize Kt h l=n at d|-;generalize uP h l=r at g|-;try subst d
  subst g;rcases(show h<55296\/(¬h<55296/\56320<=h)\/(¬h<55296/\¬56320<=h/\l<56320)\/(¬h<55296/\¬56320<=h/\¬l<56320/\57344<=l)from V)with i|⟨i,j⟩|⟨i,j,k⟩|⟨i,j,k,m⟩;·clear b;exact mJ
  ·clear b;exact mJ
  ·clear b;exact mJ
  ·clear b;exact mJ
def Yu(h l:Int):0<=uP h l/\uP h l<=1114111:=by
 by_cases d:55296<=h/\h<56320/\56320<=l/\l<57344;·obtain⟨e,b⟩:=Us d;rw[b];omega
 ·obtain⟨e,b⟩:=Xe d;rw[b];omega
def Wh(A:acN)(k j b c:Nat)(xs:acM)(l:yv c=true)(w:World)(o:Own w b A k j xs)(m:b<=w.heap.size)(n:k<=1000000000):Calls Tryz.prog 241 #[.slice A k j,.int .i32 c] w fun e w'=>∃A' n' c',e=.returned (.tuple #[.slice A' n' c',.int .i64 0])/\n'=k+(tW c).length/\Own w' b A' n' c' (xs++tW c)/\Below b w w':=by
 have q:=(Bm c).1 l;rcases(show c<128\/(128<=c/\c<2048)\/(2048<=c/\c<65536)\/65536<=c from V)with h|⟨h,p⟩|⟨h,p⟩|h
 ·have i:(tW c).length=1:=by unfold tW;rw[rv h];rfl
  refine(ZS A k j b c xs V V l w o m n).mono ?_;rintro e w' ⟨A',c',rfl,d,g⟩;exact⟨A',k+1,c',rfl,by rw[i],d,g⟩
 ·have i:(tW c).length=2:=by unfold tW;rw[ru V,rv p];rfl
  refine(ZT A k j b c xs V V l w o m n).mono ?_;rintro e w' ⟨A',c',rfl,d,g⟩;exact⟨A',k+2,c',rfl,by rw[i],d,g⟩
 ·have i:(tW c).length=3:=by unfold tW;rw[ru V,ru V,rv p];rfl
  refine(ZU A k j b c xs V V l w o m n).mono ?_;rintro e w' ⟨A',c',rfl,d,g⟩;exact⟨A',k+3,c',rfl,by rw[i],d,g⟩
 ·have i:(tW c).length=4:=by unfold tW;rw[ru V,ru V,ru V];rfl
  refine(ZV A k j b c xs V V l w o m n).mono ?_;rintro e w' ⟨A',c',rfl,d,g⟩;exact⟨A',k+4,c',rfl,by rw[i],d,g⟩
end Go.Proofs.YtccjlcadbpinfaaGreatDoor.Ut
namespace Go.Proofs.YtccjlcadbpinfaaGreatDoor.Mem
open ChangeShapes WideShapes ChangeAt RowKit
section
variable{ops:Array Oper}{rest:List Oper}{a:Act}{Q:Exit->Act->World->Prop}{w:World}
end
def Own.setAt{w:World}{b n c:Nat}{A:acN}{xs:acM}(h:Own w b A n c xs){g:Nat}(d:g<b)(i:Nat)(u:Value):Own (w.setCell ⟨g,i,none⟩ u) b A n c xs:=ownsRow_setCell_below h (a:=⟨g,i,none⟩) d u
end Go.Proofs.YtccjlcadbpinfaaGreatDoor.Mem
namespace Go.Proofs.YtccjlcadbpinfaaGreatDoor.Pro
open ChangeShapes WideShapes ChangeAt RowKit
open Num Zg ZgW ProN
section
variable(g m s u:Nat)(n:Int)(j b d bias digits:Nat)(w:World)
def Oa:Calls Tryz.prog 262 #[.int .u64 u,.int .u64 0] w fun e w'=>e=.returned (.int .u64 u)/\w=w':=by go_enter PW,MH;exact mz
def Q8(g:64<d)(w:World):Calls Tryz.prog 262 #[.int .u64 u,.int .u64 d] w fun e w'=>e=.returned (.int .u64 0)/\w=w':=by
 have b:((d:Int)==0)=false:=by simp;omega
 go_enter PW,MH;exact mz
def Ra(n:1<=d)(A:d<=63)(x:u<=18446744073709551615)(w:World):Calls Tryz.prog 262 #[.int .u64 u,.int .u64 d] w fun e w'=>e=.returned (.int .u64 (KI u d))/\w=w':=by
 have z:((d:Int)==0)=false:=by simp;omega
 have B:((d:Int)==64)=false:=by simp;omega
 have j:=M4 u d x;have t:=Ta d n V;have k:∀q:Nat,q<=u->bits BinOp.and IntKind.u64 (q:Int) 1=(q:Int)%2:=fun q o=>Un _ V V
 have g:=k (u/2^d) (Nat.div_le_self _ _);clear k;have v:=div_val u d;have o:u/2^d<=9223372036854775807:=by have:u/2^d<=u/2^1:=Nat.div_le_div_left (Nat.pow_le_pow_right V n) V;omega
 have b:KI u d=if 2^(d-1)<u%2^d\/(u%2^d=2^(d-1)/\u/2^d%2=1)then u/2^d+1 else u/2^d:=by unfold KI;rw[ru V,ru V]
 generalize KI u d=R at b|-;generalize u/2^d=q at b o j g v;generalize u%2^d=r at b j;have l:(((q:Nat):Int)%2)=((q%2:Nat):Int):=V;rw[l]at g;generalize q%2=m at b g;generalize 2^(d-1)=H at b t;clear l;rcases Nat.lt_trichotomy H r with h|h|h;·rw[rv (.inl h)]at b;have HR:=rq b;clear b;have y:(H:Int)<(r:Int):=V;exact hZ
 ·subst h;by_cases i:m=1
  ·rw[rv (.inr ⟨rfl,i⟩)]at b;have HR:=rq b;have p:((m:Int)==1)=true:=by simp;omega
   clear b i;exact hZ
  ·rw[ru V]at b;have HR:=rq b;have p:((m:Int)==1)=false:=by simp;omega
   clear b i;exact iA
 ·rw[ru V]at b;have HR:=rq b;clear b;have y:¬(H:Int)<(r:Int):=V;have p:((r:Int)==(H:Int))=false:=by simp;omega
  exact iA
def T5(g:u<=18446744073709551615)(w:World):Calls Tryz.prog 262 #[.int .u64 u,.int .u64 64] w fun e w'=>e=.returned (.int .u64 (KI u 64))/\w=w':=by
 have b:KI u 64=if 9223372036854775808<u then 1 else 0:=by unfold KI;rw[ru V,ru V,show(2:Nat)^64=18446744073709551616 by rfl,show(2:Nat)^(64-1)=9223372036854775808 by rfl,Nat.mod_eq_of_lt V,Sf V];simp
 generalize KI u 64=R at b|-;by_cases h:9223372036854775808<u;·rw[rv h]at b;have HR:=rq b;clear b;go_enter PW,MH;go_wp2;go_ret;exact⟨AH dh,rfl⟩
 ·rw[ru h]at b;have HR:=rq b;clear b;have d:bits BinOp.and IntKind.u64 0 1=0:=bC;go_enter PW,MH;go_wp2;all_goals go_ret
  all_goals exact⟨AH dh,rfl⟩
def Q6(i:u<=18446744073709551615)(w:World):Calls Tryz.prog 262 #[.int .u64 u,.int .u64 d] w fun e w'=>e=.returned (.int .u64 (KI u d))/\w=w':=by
 by_cases b:d=0
 ·subst b;have:KI u 0=u:=by unfold KI;rw[rv rfl]
  rw[this];exact Oa u w
 ·by_cases g:64<d
  ·have:KI u d=0:=by unfold KI;rw[ru b,rv g]
   rw[this];exact Q8 u d g w
  ·by_cases j:d=64;·subst j;exact T5 u i w
   ·exact Ra u d V V i w
def Yf(d:w.cell? ⟨g,0,none⟩=some (.int .u64 m))(i:w.frozen? ⟨g,0,none⟩=false)(b:m*2^s<=18446744073709551615)(j:s<=60):Calls Tryz.prog 261 #[.int .i64 s,.pointer (some ⟨g,0,none⟩)] w fun e w'=>e=.returned (.tuple #[])/\w.setCell ⟨g,0,none⟩ (.int .u64 (m*2^s:Nat))=w':=by
 have e:IntKind.u64.wrap ((m:Int)*2^s)=((m*2^s:Nat):Int):=by rw[wrap_u64,show((2:Int)^s)=((2^s:Nat):Int)from bi,<-Int.natCast_mul];omega
 generalize m*2^s=v at e b|-;go_enter Tryz.func261,Tryz.ntmps261;go_wp2;refine rV (tA rfl _ _ _) rfl ?_;exact bH
def TV(d:w.cell? ⟨g,0,none⟩=some (.int .u64 m))(i:w.frozen? ⟨g,0,none⟩=false)(b:m<=18446744073709551615)(j:s<=64)(k:1<=s):Calls Tryz.prog 261 #[.int .i64 (-(s:Int)),.pointer (some ⟨g,0,none⟩)] w fun e w'=>e=.returned (.tuple #[])/\w.setCell ⟨g,0,none⟩ (.int .u64 (KI m s))=w':=by have l:¬(0:Int)<= -(s:Int):=V;go_enter Tryz.func261,Tryz.ntmps261;go_wp2_with fail;refine(Q6 m s b _).mono ?_;rintro e w' ⟨rfl,rfl⟩;go_wp2_with fail;go_end0;exact bH
def wj(b:w.cell? ⟨g,0,none⟩=some (.int .u64 m))(d:w.frozen? ⟨g,0,none⟩=false)(o:m<=9223372036854775808)(i:0<m)(l:digits<=52):Calls Tryz.prog 261 #[.int .i64 ((digits:Int)-(high m:Int)),.pointer (some ⟨g,0,none⟩)] w fun e w'=>e=.returned (.tuple #[])/\w.setCell ⟨g,0,none⟩ (.int .u64 (FE m digits))=w':=by
 have n:=BP (u:=m) (k:=63) i V;have hb:=JY m digits;by_cases h:high m<=digits
 ·have e:FE m digits=m*2^(digits-high m):=by unfold FE;rw[rv h]
  rw[e]at hb|-;rw[show(digits:Int)-(high m:Int)=((digits-high m:Nat):Int)from V];refine Yf g m _ w b d ?_ V;have j:2^(digits+1)<=2^53:=Nat.pow_le_pow_right V V;omega
 ·have e:FE m digits=KI m (high m-digits):=by unfold FE;rw[ru h]
  rw[e];rw[show(digits:Int)-(high m:Int)= -((high m-digits:Nat):Int)from V];exact TV g m _ w b d V V V
def Sx(h0:0<u)(q:n.natAbs=u)(y:n<0)(h1:u<=9223372036854775808)(z:d<=9223372036854775808)(hb:bias<=1023)(v:1<=bias)(hd:digits<=52)(w:World):Calls Tryz.prog 245 #[.int .i64 n,.int .u64 d,.int .i64 bias,.int .i64 digits] w fun e w'=>e=.returned (.int .u64 (d+Ty u bias digits:Nat))/\acP w w':=by
 have x:∀(g:Fn)(first cap:Array Value)(w:World),(Instr.makeFunc g first cap).run Tryz.prog w=.ok (.func g first cap) w:=fun _ _ _ _=>rfl
 have i:=Hg (u:=u) V;have m:=BP (u:=u) (k:=63) V V;have HN:=rq i;have o:=Tz (u:=u) (bias:=bias) (digits:=digits) m hb hd;have b:Ty u bias digits=(bias+high u-1)*2^digits+FE u digits:=rfl;have j:∀X:Int,X=((bias+high u-1:Nat):Int)->IntKind.u64.wrap (X*2^digits)=(((bias+high u-1)*2^digits:Nat):Int):=ni;have p:=j ((bias:Int)+(high u:Int)-1) V;clear j;generalize(bias+high u-1)*2^digits=l at b p;have HMG:=rq b;have t:l+FE u digits<9223372036854775808:=V;clear i b o;have A:(n==0)=false:=by simp;omega
 have r:IntKind.u64.wrap (-IntKind.u64.wrap n)=(u:Int):=by rw[wrap_u64,wrap_u64];omega
 clear q;exact ma
def Sy(h0:0<u)(r:n.natAbs=u)(y:0<n)(h1:u<=9223372036854775808)(_hs:j<=9223372036854775808)(hb:bias<=1023)(v:1<=bias)(hd:digits<=52)(w:World):Calls Tryz.prog 245 #[.int .i64 n,.int .u64 j,.int .i64 bias,.int .i64 digits] w fun e w'=>e=.returned (.int .u64 (Ty u bias digits:Nat))/\acP w w':=by
 have x:∀(d:Fn)(first cap:Array Value)(w:World),(Instr.makeFunc d first cap).run Tryz.prog w=.ok (.func d first cap) w:=fun _ _ _ _=>rfl
 have g:=Hg (u:=u) V;have o:=BP (u:=u) (k:=63) V V;have HN:=rq g;have p:=Tz (u:=u) (bias:=bias) (digits:=digits) o hb hd;have b:Ty u bias digits=(bias+high u-1)*2^digits+FE u digits:=rfl;have i:∀X:Int,X=((bias+high u-1:Nat):Int)->IntKind.u64.wrap (X*2^digits)=(((bias+high u-1)*2^digits:Nat):Int):=ni;have q:=i ((bias:Int)+(high u:Int)-1) V;clear i;generalize(bias+high u-1)*2^digits=l at b q;have HMG:=rq b;have t:l+FE u digits<9223372036854775808:=V;clear g b p;have z:(n==0)=false:=by simp;omega
 have m:n=(u:Int):=V;clear r;subst m;exact ma
def Qb:Calls Tryz.prog 245 #[.int .i64 0,.int .u64 b,.int .i64 bias,.int .i64 digits] w fun e w'=>e=.returned (.int .u64 0)/\acP w w':=by go_enter Tryz.func245,Tryz.ntmps245;go_wp2;go_ret;exact nW
def IJ(j: -9223372036854775808<=n)(k:n<=9223372036854775807)(i:b<=9223372036854775808)(hb:bias<=1023)(d:1<=bias)(g:digits<=52)(w:World):Calls Tryz.prog 245 #[.int .i64 n,.int .u64 b,.int .i64 bias,.int .i64 digits] w fun e w'=>e=.returned (.int .u64 (DR n b bias digits))/\acP w w':=by
 rcases Int.lt_trichotomy n 0 with h|h|h
 ·have e:DR n b bias digits=b+Ty n.natAbs bias digits:=by unfold DR;rw[ru V,rv h]
  rw[e];exact Sx n.natAbs n b bias digits V rfl h V i hb d g w
 ·subst h;exact Qb b bias digits w
 ·have e:DR n b bias digits=Ty n.natAbs bias digits:=by unfold DR;rw[ru V,ru V,sY]
  rw[e];exact Sy n.natAbs n b bias digits V rfl h V i hb d g w
def dbl(n:Int):Nat:=DR n 9223372036854775808 1023 52
def Zk(n:Int):Nat:=DR n 2147483648 127 23
def XG(d: -9223372036854775808<=n)(e:n<=9223372036854775807):Zk n<4294967296:=by
 unfold Zk DR;by_cases b:n=0;·rw[rv b];omega
 ·rw[ru b];have:=TA (u:=n.natAbs) (BP (k:=63) V V);split<;>omega
def Np(b: -9223372036854775808<=n)(d:n<=9223372036854775807)(w:World):Calls Tryz.prog 234 #[.int .i64 n] w fun e w'=>e=.returned (.int .u64 (dbl n))/\acP w w':=by go_enter Tryz.func234,Tryz.ntmps234;go_wp2_with fail;refine(IJ n 9223372036854775808 1023 52 b d V V V V _).mono ?_;rintro e w' ⟨rfl,g⟩;go_wp2_with fail;go_ret;exact⟨rfl,g⟩
def Qo(b: -9223372036854775808<=n)(d:n<=9223372036854775807)(w:World):Calls Tryz.prog 233 #[.int .i64 n] w fun e w'=>e=.returned (.int .u32 (Zk n))/\acP w w':=by have j:=XG n b d;have g:DR n 2147483648 127 23=Zk n:=rfl;go_enter Tryz.func233,Tryz.ntmps233;go_wp2_with fail;refine(IJ n 2147483648 127 23 b d V V V V _).mono ?_;rintro e w' ⟨rfl,i⟩;rw[g];clear g;go_wp2_with fail;go_ret;exact⟨rfl,i⟩
end
