import Derived.Test.YtccjlcadbpinfaaGreatDoorX1
import Derived.BigQuiet
import Derived.Deep.QuietTactic
set_option linter.all false
set_option maxRecDepth 100000
set_option maxHeartbeats 1000000
namespace Go.Proofs.YtccjlcadbpinfaaGreatDoor.Ut
open ChangeShapes WideShapes ChangeAt RowKit
open Num Mem Can
def AH{k:IntKind}{a b:Int}(h:a=b):Ending.returned (.int k a)=.returned (.int k b):=by rw[h]
def yv(c:Int):Bool:=decide (0<=c)&&decide (c<=1114111)&&(decide (c<55296)||decide (57343<c))
def Bm(c:Int):yv c=true↔0<=c/\c<=1114111/\(c<55296\/57343<c):=by unfold yv;simp[and_assoc]
def xD(c:Int)(i: -2147483648<=c)(j:c<=2147483647)(w:World):Calls Tryz.prog 246 #[.int .i32 c] w fun e w'=>e=.returned (.bool (yv c))/\w=w':=by
 obtain⟨b,hb⟩:∃b,b=yv c:=⟨_,rfl⟩;rw[<-hb];have hi:=Bm c;rw[<-hb]at hi;clear hb;rcases(show c<0\/(0<=c/\1114111<c)\/(0<=c/\c<=1114111/\c<55296)\/(0<=c/\c<=1114111/\¬c<55296/\57344<=c)\/(0<=c/\c<=1114111/\¬c<55296/\¬57344<=c)from V)with h|⟨h,a⟩|⟨h,a,d⟩|⟨h,a,d,g⟩|⟨h,a,d,g⟩;·exact pi
 ·exact pi
 ·obtain rfl:b=true:=hi.2 V;exact my
 ·obtain rfl:b=true:=hi.2 V;exact my
 ·exact pi
def AG(w:World):Calls Tryz.prog 247 #[.int .i64 2] w fun e w'=>e=.returned (.int .i32 128)/\w=w':=o8
def C1(w:World):Calls Tryz.prog 247 #[.int .i64 3] w fun e w'=>e=.returned (.int .i32 2048)/\w=w':=o8
def FT(w:World):Calls Tryz.prog 247 #[.int .i64 4] w fun e w'=>e=.returned (.int .i32 65536)/\w=w':=o8
def NY(g:Nat)(c:Nat)(_hc:c<=1114111)(w:World)(a:w.cell? ⟨g,0,none⟩=some (.int .i32 c)):Calls Tryz.prog 248 #[.int .i64 0,.pointer (some ⟨g,0,none⟩)] w fun e w'=>e=.returned (.int .u8 (128+c%64:Nat))/\w=w':=o9
def TS(g:Nat)(c:Nat)(_hc:c<=1114111)(w:World)(a:w.cell? ⟨g,0,none⟩=some (.int .i32 c)):Calls Tryz.prog 248 #[.int .i64 1,.pointer (some ⟨g,0,none⟩)] w fun e w'=>e=.returned (.int .u8 (128+c/64%64:Nat))/\w=w':=o9
def Yd(g:Nat)(c:Nat)(_hc:c<=1114111)(w:World)(a:w.cell? ⟨g,0,none⟩=some (.int .i32 c)):Calls Tryz.prog 248 #[.int .i64 2,.pointer (some ⟨g,0,none⟩)] w fun e w'=>e=.returned (.int .u8 (128+c/4096%64:Nat))/\w=w':=o9
def wm{P:Program}{f:FuncId}{args:Array Value}{w:World}{a n:Nat}{v:Value}(h:Calls P f args (w.drewN (a+n)) fun e w'=>e=.returned v/\w.drewN (a+n)=w'):Calls P f args (w.drewN (a+n)) fun e g=>e=.returned v/\∃m,g=w.drewN (a+m):=h.mono fun _ _ ⟨b,d⟩=>⟨b,n,d.symm⟩
def vG{P:Program}{f:FuncId}{args:Array Value}{w:World}{n:Nat}{v:Value}(h:Calls P f args (w.drewN n) fun e w'=>e=.returned v/\w.drewN n=w'):Calls P f args (w.drewN n) fun e d=>e=.returned v/\∃m,d=w.drewN m:=h.mono fun _ _ ⟨a,b⟩=>⟨a,n,b.symm⟩
def tW(c:Nat):acM:=if c<128 then [UInt8.ofNat c]else if c<2048 then [UInt8.ofNat (192+c/64),UInt8.ofNat (128+c%64)]else if c<65536 then [UInt8.ofNat (224+c/4096),UInt8.ofNat (128+c/64%64),UInt8.ofNat (128+c%64)]else [UInt8.ofNat (240+c/262144),UInt8.ofNat (128+c/4096%64),UInt8.ofNat (128+c/64%64),UInt8.ofNat (128+c%64)]
def Wg(A:acN)(k a:Nat)(c:Int)(g: -2147483648<=c)(i:c<=2147483647)(b:yv c=false)(w:World):Calls Tryz.prog 241 #[.slice A k a,.int .i32 c] w fun e w'=>e=.returned (.tuple #[.slice A k a,.int .i64 2])/\acP w w':=by have d:=rq b;clear b;go_enter Gs,Ez;go_wp2_with fail;refine(xD c g i _).mono ?_;rintro e w' ⟨rfl,rfl⟩;rw[d.out];go_wp2_with fail;go_ret2;exact gG
end Go.Proofs.YtccjlcadbpinfaaGreatDoor.Ut
namespace Go.Proofs.YtccjlcadbpinfaaGreatDoor.Ut
open Num Mem
section
variable{a x y z:UInt8}
def zr(a:Nat):Nat×Nat:=if a<128 then(1,a)else if a<194 then(0,0)else if a<224 then(2,a%32)else if a<240 then(3,a%16)else if a<245 then(4,a%8)else(0,0)
def Aw(a b:Nat):Bool:=decide ((if a=224 then 160 else if a=240 then 144 else 128)<=b)&&decide (b<=(if a=237 then 159 else if a=244 then 143 else 191))
def vV(a b:Nat):Aw a b=true↔128<=b/\b<=191/\(a=224->160<=b)/\(a=240->144<=b)/\(a=237->b<=159)/\(a=244->b<=143):=by
 unfold Aw;simp only[rG,rQ];repeat' split
 all_goals omega
def uc(a n:Nat):Nat->Nat->Nat->acM->Nat×Nat×Nat
 |0,_,c,_=>(c,n,0)
 |_+1,_,_,[]=>(0,0,10)
 |m+1,i,c,x::r=>if x.toNat/64≠2\/(i=1/\Aw a x.toNat=false)then(0,0,11)else uc a n m (i+1) (c*64+x.toNat%64) r
def vM:acM->Nat×Nat×Nat
 | []=>(0,0,10)
 |a::r=>if(zr a.toNat).1=0 then(0,0,11)else uc a.toNat (zr a.toNat).1 ((zr a.toNat).1-1) 1 (zr a.toNat).2 r
def Ga(a n i c:Nat)(L:acM):uc a n 0 i c L=(c,n,0):=by unfold uc;rfl
def Yv(a n m i c:Nat):uc a n (m+1) i c []=(0,0,10):=rfl
def vI(a n m i c:Nat)(x:UInt8)(r:acM):uc a n (m+1) i c (x::r)=if x.toNat/64≠2\/(i=1/\Aw a x.toNat=false)then(0,0,11)else uc a n m (i+1) (c*64+x.toNat%64) r:=rfl
def vW(a:UInt8)(r:acM):vM (a::r)=if(zr a.toNat).1=0 then(0,0,11)else uc a.toNat (zr a.toNat).1 ((zr a.toNat).1-1) 1 (zr a.toNat).2 r:=rfl
def Uw{a:Nat}(h:a<128):zr a=(1,a):=by unfold zr;rw[rv h]
def Uv{a:Nat}(h:128<=a)(b:a<194):zr a=(0,0):=by unfold zr;rw[ru V,rv b]
def Ku{a:Nat}(h:194<=a)(b:a<224):zr a=(2,a%32):=by unfold zr;rw[ru V,ru V,rv b]
def E1{a:Nat}(h:224<=a)(b:a<240):zr a=(3,a%16):=by unfold zr;rw[ru V,ru V,ru V,rv b]
def CO{a:Nat}(h:240<=a)(b:a<245):zr a=(4,a%8):=by unfold zr;rw[ru V,ru V,ru V,ru V,rv b]
def Ux{a:Nat}(h:245<=a):zr a=(0,0):=by unfold zr;rw[ru V,ru V,ru V,ru V,ru V]
def My(h:a.toNat<128)(r:acM):vM (a::r)=(a.toNat,1,0):=by rw[vW,Uw h];rfl
def UA(h:194<=a.toNat)(b:a.toNat<224)(e:128<=x.toNat)(g:x.toNat<192)(r:acM):vM (a::x::r)=(a.toNat%32*64+x.toNat%64,2,0):=by have d:Aw a.toNat x.toNat=true:=(vV _ _).2 V;rw[vW,Ku h b,ru bi];show uc _ _ 1 _ _ _=_;rw[vI,ru (by rw[d];simp;omega),Ga]
def UB(h:224<=a.toNat)(b:a.toNat<240)(hx:Aw a.toNat x.toNat=true)(e:128<=y.toNat)(g:y.toNat<192)(r:acM):vM (a::x::y::r)=((a.toNat%16*64+x.toNat%64)*64+y.toNat%64,3,0):=by have d:=(vV _ _).1 hx;rw[vW,E1 h b,ru bi];show uc _ _ 2 _ _ _=_;rw[vI,ru eU,vI,ru (by simp;omega),Ga]
def UC(h:240<=a.toNat)(b:a.toNat<245)(hx:Aw a.toNat x.toNat=true)(e:128<=y.toNat)(g:y.toNat<192)(i:128<=z.toNat)(j:z.toNat<192)(r:acM):vM (a::x::y::z::r)=(((a.toNat%8*64+x.toNat%64)*64+y.toNat%64)*64+z.toNat%64,4,0):=by have d:=(vV _ _).1 hx;rw[vW,CO h b,ru bi];show uc _ _ 3 _ _ _=_;rw[vI,ru eU,vI,ru (by simp;omega),vI,ru (by simp;omega),Ga]
def UE(h:194<=a.toNat)(d:a.toNat<245):vM [a]=(0,0,10):=by
 rw[vW];rcases(show a.toNat<224\/(224<=a.toNat/\a.toNat<240)\/240<=a.toNat from V)with b|⟨b,e⟩|b;·rw[Ku h b];rfl
 ·rw[E1 b e];rfl
 ·rw[CO b d];rfl
def UF(h:224<=a.toNat)(d:a.toNat<245)(hx:Aw a.toNat x.toNat=true):vM [a,x]=(0,0,10):=by
 have e:=(vV _ _).1 hx;rw[vW];rcases(show a.toNat<240\/240<=a.toNat from V)with b|b;·rw[E1 h b,ru bi];show uc _ _ 2 _ _ _=_;rw[vI,ru eU];rfl
 ·rw[CO b d,ru bi];show uc _ _ 3 _ _ _=_;rw[vI,ru eU];rfl
def UG(h:240<=a.toNat)(b:a.toNat<245)(hx:Aw a.toNat x.toNat=true)(e:128<=y.toNat)(g:y.toNat<192):vM [a,x,y]=(0,0,10):=by have d:=(vV _ _).1 hx;rw[vW,CO h b,ru bi];show uc _ _ 3 _ _ _=_;rw[vI,ru eU,vI,ru (by simp;omega)];rfl
end
inductive Ic:acM->Prop
 |s0:Ic []
 |s1 (a:UInt8) (h:194<=a.toNat) (h':a.toNat<245):Ic [a]
 |s2 (a x:UInt8) (h:224<=a.toNat) (h':a.toNat<245) (hx:Aw a.toNat x.toNat=true):Ic [a,x]
 |s3 (a x y:UInt8) (h:240<=a.toNat) (h':a.toNat<245) (hx:Aw a.toNat x.toNat=true) (hy:128<=y.toNat) (hy':y.toNat<192):Ic [a,x,y]
 |bad (L:acM) (h:vM L=(0,0,11)):Ic L
 |o1 (a:UInt8) (r:acM) (h:a.toNat<128):Ic (a::r)
 |o2 (a x:UInt8) (r:acM) (h:194<=a.toNat) (h':a.toNat<224) (hx:128<=x.toNat) (H5:x.toNat<192):Ic (a::x::r)
 |o3 (a x y:UInt8) (r:acM) (h:224<=a.toNat) (h':a.toNat<240) (hx:Aw a.toNat x.toNat=true) (hy:128<=y.toNat) (hy':y.toNat<192):Ic (a::x::y::r)
 |o4 (a x y z:UInt8) (r:acM) (h:240<=a.toNat) (h':a.toNat<245) (hx:Aw a.toNat x.toNat=true) (hy:128<=y.toNat) (hy':y.toNat<192) (hz:128<=z.toNat) (hz':z.toNat<192):Ic (a::x::y::z::r)
def Z2(L:acM):Ic L:=by
 match L with
 | []=>exact .s0
 |a::r=>
  by_cases j:a.toNat<128;·exact .o1 a r j
  by_cases i:a.toNat<194;·exact .bad _ (by rw[vW,Uv V i];rfl)
  by_cases k:245<=a.toNat;·exact .bad _ (by rw[vW,Ux k];rfl)
  match r with
  | []=>exact .s1 a V V
  |x::r=>
   by_cases hx:Aw a.toNat x.toNat=true
   ·have l:=(vV _ _).1 hx;by_cases b:a.toNat<224;·exact .o2 a x r V b V V
    match r with
    | []=>exact .s2 a x V V hx
    |y::r=>
     by_cases d:128<=y.toNat/\y.toNat<192
     ·by_cases e:a.toNat<240;·exact .o3 a x y r V e hx d.1 d.2
      match r with
      | []=>exact .s3 a x y V V hx d.1 d.2
      |z::r=>
       by_cases g:128<=z.toNat/\z.toNat<192;·exact .o4 a x y z r V V hx d.1 d.2 g.1 g.2
       ·refine .bad _ ?_;rw[vW,CO V V,ru bi];show uc _ _ 3 _ _ _=_;rw[vI,ru eU,vI,ru (by simp;omega),vI,rv (by left;omega)]
     ·refine .bad _ ?_;rw[vW];by_cases e:a.toNat<240;·rw[E1 V e,ru bi];show uc _ _ 2 _ _ _=_;exact oA
      ·rw[CO V V,ru bi];show uc _ _ 3 _ _ _=_;exact oA
   ·have H5:Aw a.toNat x.toNat=false:=by simpa using hx
    refine .bad _ ?_;rw[vW];rcases(show a.toNat<224\/(224<=a.toNat/\a.toNat<240)\/240<=a.toNat from V)with b|⟨b,e⟩|b;·rw[Ku V b,ru bi];show uc _ _ 1 _ _ _=_;exact jJ
    ·rw[E1 b e,ru bi];show uc _ _ 2 _ _ _=_;exact jJ
    ·rw[CO b V,ru bi];show uc _ _ 3 _ _ _=_;exact jJ
def yx{x:UInt8}{n:Nat}(h:n=x.toNat):UInt8.ofNat n=x:=by subst h;simp
def Ef(c:Nat):1<=(tW c).length/\(tW c).length<=4:=by
 unfold tW;repeat' split
 all_goals simp
def UD{L:acM}(h:(vM L).2.2=0):yv (vM L).1=true/\(vM L).1<=1114111/\tW (vM L).1++L.drop (vM L).2.1=L/\(vM L).2.1=(tW (vM L).1).length:=by
 cases Z2 L with
 |s0=>cases h
 |s1 a b d=>rw[UE b d]at h;cases h
 |s2 a x b d e=>rw[UF b d e]at h;cases h
 |s3 a x y b d e g i=>rw[UG b d e g i]at h;cases h
 |bad _ hb=>rw[hb]at h;cases h
 |o1 a r b=>
  rw[My b];simp only[];refine⟨(Bm _).2 V,V,?_,?_⟩;·unfold tW;rw[rv b];simp
  ·unfold tW;rw[rv b];rfl
 |o2 a x r b d g i=>
  rw[UA b d g i];simp only[];have hu:tW (a.toNat%32*64+x.toNat%64)=[a,x]:=by unfold tW;rw[ru V,rv V,yx (x:=a) V,yx (x:=x) V]
  exact nc
 |o3 a x y r b d e g i=>
  have l:=(vV _ _).1 e;rw[UB b d e g i];simp only[];have hu:tW ((a.toNat%16*64+x.toNat%64)*64+y.toNat%64)=[a,x,y]:=by unfold tW;rw[ru V,ru V,rv V,yx (x:=a) V,yx (x:=x) V,yx (x:=y) V]
  exact nc
 |o4 a x y z r b d e g i j k=>
  have l:=(vV _ _).1 e;rw[UC b d e g i j k];simp only[];have hu:tW (((a.toNat%8*64+x.toNat%64)*64+y.toNat%64)*64+z.toNat%64)=[a,x,y,z]:=by unfold tW;rw[ru V,ru V,ru V,yx (x:=a) V,yx (x:=x) V,yx (x:=y) V,yx (x:=z) V]
  exact nc
def WA{L:acM}(h:(vM L).2.2≠0):vM L=(0,0,10)\/vM L=(0,0,11):=by
 cases Z2 L with
 |s0=>exact .inl rfl
 |s1 a b d=>exact .inl (UE b d)
 |s2 a x b d i=>exact .inl (UF b d i)
 |s3 a x y b d i e g=>exact .inl (UG b d i e g)
 |bad _ hb=>exact .inr hb
 |o1 a r b=>rw[My b]at h;exact jB
 |o2 a x r b d e g=>rw[UA b d e g]at h;exact jB
 |o3 a x y r b d i e g=>rw[UB b d i e g]at h;exact jB
 |o4 a x y z r b d i e g j k=>rw[UC b d i e g j k]at h;exact jB
def Mx{c:Nat}(i:yv c=true):(∃a,tW c=[a]/\a.toNat<128/\c=a.toNat)\/(∃a x,tW c=[a,x]/\194<=a.toNat/\a.toNat<224/\128<=x.toNat/\x.toNat<192/\c=a.toNat%32*64+x.toNat%64)\/(∃a x y,tW c=[a,x,y]/\224<=a.toNat/\a.toNat<240/\Aw a.toNat x.toNat=true/\128<=y.toNat/\y.toNat<192/\c=(a.toNat%16*64+x.toNat%64)*64+y.toNat%64)\/(∃a x y z,tW c=[a,x,y,z]/\240<=a.toNat/\a.toNat<245/\Aw a.toNat x.toNat=true/\128<=y.toNat/\y.toNat<192/\128<=z.toNat/\z.toNat<192/\c=((a.toNat%8*64+x.toNat%64)*64+y.toNat%64)*64+z.toNat%64):=by
 have j:=(Bm c).1 i;have b:∀n,n<256->(UInt8.ofNat n).toNat=n:=fun n k=>ca
 by_cases d:c<128;·exact .inl ⟨UInt8.ofNat c,by unfold tW;rw[rv d],by rw[b _ V];exact d,by rw[b _ V]⟩
 by_cases e:c<2048;·refine .inr (.inl ⟨UInt8.ofNat (192+c/64),UInt8.ofNat (128+c%64),by unfold tW;rw[ru d,rv e],?_⟩);rw[b _ V,b _ V];omega
 by_cases g:c<65536;·refine .inr (.inr (.inl ⟨UInt8.ofNat (224+c/4096),UInt8.ofNat (128+c/64%64),UInt8.ofNat (128+c%64),by unfold tW;rw[ru d,ru e,rv g],?_⟩));rw[b _ V,b _ V,b _ V,vV];omega
 ·refine .inr (.inr (.inr ⟨UInt8.ofNat (240+c/262144),UInt8.ofNat (128+c/4096%64),UInt8.ofNat (128+c/64%64),UInt8.ofNat (128+c%64),by unfold tW;rw[ru d,ru e,ru g],?_⟩));rw[b _ V,b _ V,b _ V,b _ V,vV];omega
def UH{c:Nat}(m:yv c=true)(n:acM):vM (tW c++n)=(c,(tW c).length,0):=by
 rcases Mx m with⟨a,e,b,d⟩|⟨a,x,e,b,d,g,h,i⟩|⟨a,x,y,e,b,d,g,h,i,j⟩|⟨a,x,y,z,e,b,d,g,h,i,j,k,l⟩;·rw[e];simp only[sa,sd,rM,sc];rw[My b,d]
 ·rw[e];simp only[sa,sd,rM,sc];rw[UA b d g h,i]
 ·rw[e];simp only[sa,sd,rM,sc];rw[UB b d g h i,j]
 ·rw[e];simp only[sa,sd,rM,sc];rw[UC b d g h i j k,l]
def Py(n:Nat)(b:acM):Int:=match n,b with
 |1,a::_=>a.toNat
 |2,a::x::_=>((a.toNat:Int)-192)*64+((x.toNat:Int)-128)
 |3,a::x::y::_=>((a.toNat:Int)-224)*4096+((x.toNat:Int)-128)*64+((y.toNat:Int)-128)
 |4,a::x::y::z::_=>((a.toNat:Int)-240)*262144+((x.toNat:Int)-128)*4096+((y.toNat:Int)-128)*64+((z.toNat:Int)-128)
 |_,_=> -1
def Z3(n:Nat)(b:acM):Prop:=yv (Py n b)=true/\(tW (Py n b).toNat).length=n/\tW (Py n b).toNat<+:b
def Rp{c:Nat}(k:yv c=true)(t:acM):Py (tW c).length (tW c++t)=c:=by
 rcases Mx k with⟨a,b,g,d⟩|⟨a,x,b,g,d,e,h,i⟩|⟨a,x,y,b,g,d,e,h,i,j⟩|⟨a,x,y,z,b,g,d,e,h,i,j,m,n⟩;·rw[b,d];rfl
 ·rw[b];show((a.toNat:Int)-192)*64+((x.toNat:Int)-128)=_;omega
 ·have l:=(vV _ _).1 e;rw[b];show((a.toNat:Int)-224)*4096+((x.toNat:Int)-128)*64+((y.toNat:Int)-128)=_;omega
 ·have l:=(vV _ _).1 e;rw[b];show((a.toNat:Int)-240)*262144+((x.toNat:Int)-128)*4096+((y.toNat:Int)-128)*64+((z.toNat:Int)-128)=_;omega
def L5{b:acM}(h:(vM b).2.2=0):Z3 (vM b).2.1 b/\1<=(vM b).2.1/\(vM b).2.1<=4/\(vM b).2.1<=b.length:=by obtain⟨e,_,d,g⟩:=UD h;have j:=Ef (vM b).1;have i:=vy List.length d;simp only[rC]at i;have a:=Rp e (b.drop (vM b).2.1);rw[d,<-g]at a;refine⟨⟨by rw[a];exact e,by rw[a,g];rfl,?_⟩,V,V,V⟩;rw[a];exact⟨_,d⟩
end Go.Proofs.YtccjlcadbpinfaaGreatDoor.Ut
namespace Go.Proofs.YtccjlcadbpinfaaGreatDoor.Ut
open ChangeShapes WideShapes ChangeAt RowKit
open Num Mem Can
def IL(a:Nat)(d:a<256)(w:World):Calls Tryz.prog 220 #[.int .u8 a] w fun e w'=>e=.returned (.tuple #[.int .i64 (zr a).1,.int .i32 (zr a).2])/\w=w':=by
 rcases(show a<128\/(128<=a/\a<194)\/(194<=a/\a<224)\/(224<=a/\a<240)\/(240<=a/\a<245)\/245<=a from V)with h|⟨h,b⟩|⟨h,b⟩|⟨h,b⟩|⟨h,b⟩|h;·rw[Uw h];exact mw
 ·rw[Uv h b];exact mw
 ·rw[Ku h b];exact mw
 ·rw[E1 h b];exact mw
 ·rw[CO h b];exact mw
 ·rw[Ux h];exact mw
def Hw(a b:Nat)(i:a<256)(hb:b<256)(w:World):Calls Tryz.prog 221 #[.int .u8 a,.int .u8 b] w fun e w'=>e=.returned (.bool (Aw a b))/\w=w':=by
 have hi:=vV a b;obtain⟨r,g⟩:∃r,r=Aw a b:=⟨_,rfl⟩;rw[<-g]at hi|-;clear g;rcases(show a=224\/a=237\/a=240\/a=244\/(a≠224/\a≠237/\a≠240/\a≠244)from V)with h|h|h|h|⟨h1,h2,h3,h4⟩
 ·rcases(show b<160\/(160<=b/\b<=191)\/(160<=b/\¬b<=191)from V)with q|⟨q,d⟩|⟨q,d⟩;·exact lL
  ·exact o6
  ·exact lL
 ·rcases(show b<128\/(128<=b/\b<=159)\/(128<=b/\¬b<=159)from V)with q|⟨q,d⟩|⟨q,d⟩;·exact lL
  ·exact o6
  ·exact lL
 ·rcases(show b<144\/(144<=b/\b<=191)\/(144<=b/\¬b<=191)from V)with q|⟨q,d⟩|⟨q,d⟩;·exact lL
  ·exact o6
  ·exact lL
 ·rcases(show b<128\/(128<=b/\b<=143)\/(128<=b/\¬b<=143)from V)with q|⟨q,d⟩|⟨q,d⟩;·exact lL
  ·exact o6
  ·exact lL
 ·rcases(show b<128\/(128<=b/\b<=191)\/(128<=b/\¬b<=191)from V)with q|⟨q,d⟩|⟨q,d⟩;·obtain rfl:r=false:=lV;exact lZ
  ·obtain rfl:r=true:=hi.2 V;exact lZ
  ·obtain rfl:r=false:=lV;exact lZ
def uN(xs:acM)(p:Int):Nat:=if 0<=p/\p<=xs.length then(vM (xs.drop p.toNat)).1 else 0
def Z1(xs:acM)(p:Int):Int:=if 0<=p/\p<=xs.length then p+(vM (xs.drop p.toNat)).2.1 else p
def uE(xs:acM)(p:Int):Nat:=if 0<=p/\p<=xs.length then(vM (xs.drop p.toNat)).2.2 else 2
def Ur{xs:acM}{p:Nat}(h:p<=xs.length):uN xs p=(vM (xs.drop p)).1:=by unfold uN;rw[rv V];rfl
def Ol{xs:acM}{p:Nat}(h:p<=xs.length):Z1 xs p=p+(vM (xs.drop p)).2.1:=by unfold Z1;rw[rv V];rfl
def Uq{xs:acM}{p:Nat}(h:p<=xs.length):uE xs p=(vM (xs.drop p)).2.2:=by unfold uE;rw[rv V];rfl
def Yt{xs:acM}{p:Int}(h:p<0\/(xs.length:Int)<p):uN xs p=0:=by unfold uN;exact nK
def Wy{xs:acM}{p:Int}(h:p<0\/(xs.length:Int)<p):Z1 xs p=p:=by unfold Z1;exact nK
def Ys{xs:acM}{p:Int}(h:p<0\/(xs.length:Int)<p):uE xs p=2:=by unfold uE;exact nK
def Uu{L:acM}{k:Nat}{x:UInt8}(h:L[k]? =some x):L.drop k=x::L.drop (k+1):=by obtain⟨a,rfl⟩:=rK.1 h;exact rH a
def Sp(n:Nat)(h:n<256):bits BinOp.and IntKind.u8 (n:Int) 192=((n/64*64:Nat):Int):=by have:∀m:Fin 256,bits BinOp.and IntKind.u8 ((m.val:Nat):Int) 192=((m.val/64*64:Nat):Int):=bC;exact this ⟨n,h⟩
def Uy(a:Nat):(zr a).1<=4/\(zr a).2<128:=by
 unfold zr;repeat' split
 all_goals simp
 all_goals omega
def Kq(A:acN)(n c B:Nat)(p:Nat)(xs:acM)(w:World)(D:Rd w B A n xs)(b0:p<=n)(aU:n<=1000000000):Calls Tryz.prog 182 #[.slice A n c,.int .i64 p] w fun e w'=>e=.returned (.tuple #[.int .i32 (vM (xs.drop p)).1,.int .i64 ((p:Int)+(vM (xs.drop p)).2.1),.int .i64 (vM (xs.drop p)).2.2])/\w=w':=by
 have o:(xs.drop p).length=n-p:=by rw[sx,D.1]
 have q:∀k x,(xs.drop p)[k]? =some x->∃g t,A=some ⟨g,t,none⟩/\w.cell? ⟨g,t+(p+k),none⟩=some (.int .u8 (x.toNat:Int)):=by intro k x d;rw[z6]at d;have an:=(rK.1 d).1;have:=D.1;obtain⟨g,t,y,K,_,F,T⟩:=D.at_ (k:=p+k) V;rw[d]at F;injection F with F;subst F;exact⟨g,t,K,T⟩
 generalize xs.drop p=L at o q;clear D;cases L with
 |nil=>
  clear q;have W:p=n:=by simp at o;omega
  subst W;clear o;go_enter Gr,Ey;go_wp2;go_ret3;refine⟨?_,rfl⟩;simp[vM]
 |cons a r=>
  obtain⟨g,t,K,a2⟩:=q 0 a rfl;subst K;rw[si]at a2;have z:=a.toNat_lt;have ar:r.length+1=n-p:=by simpa using o
  obtain⟨N,G,v⟩:∃N G,zr a.toNat=(N,G):=⟨_,_,rfl⟩;have U:=Uy a.toNat;rw[v]at U;obtain⟨a0,Q⟩:=U;simp only[]at a0 Q;have m:=vW a r;rw[v]at m;simp only[]at m;obtain⟨I,S⟩:∃I,I=vM (a::r):=⟨_,rfl⟩;rw[<-S]at m|-;have O:=rq v;have Y:=rq q;have W:p<n:=V;have b1:((p:Int)==n)=false:=by simp;omega
  clear S v q o;by_cases R:N=0;·subst R;rw[rv rfl]at m;subst m;go_enter Gr,Ey;go_wp2_with fail;refine(IL a.toNat z _).mono ?_;rintro e w' ⟨rfl,rfl⟩;rw[O.out];go_wp2_with fail;go_ret3;exact bH
  ·rw[ru R]at m;have a7:((N:Int)==0)=false:=by simp;omega
   go_enter Gr,Ey;go_wp2_with fail;refine(IL a.toNat z _).mono ?_;rintro e w' ⟨rfl,rfl⟩;rw[O.out];go_wp2_with fail;go_loop [4,8] (fun Z i=>∃k C:Nat,Z=.int .i32 C/\i=.int .i64 k/\1<=k/\k<=N/\k<=n-p/\((k=1/\C<128)\/(k=2/\C<8192)\/(k=3/\C<524288)\/(k=4/\C<33554432))/\Go.RowKit.Hid (I=uc a.toNat N (N-k) k C (r.drop (k-1)))) (fun _ i=>N-(intOf i).toNat);case atStart=>exact⟨1,G,rfl,rfl,V,V,V,.inl ⟨rfl,Q⟩,rq m⟩
   case
    round=>
     obtain⟨k,C,rfl,rfl,a9,ac,ak,ab,j⟩:=hrel;clear m;by_cases a4:k=N;·subst a4;have b:=j.out;rw[Gl,Ga]at b;subst b;clear j;go_wp2_with fail;go_ret3;exact bH
     ·have aa:k<N:=V;cases d:r[k-1]? with
      |none=>
       have X:r.length<=k-1:=List.getElem?_eq_none_iff.1 d;have b:=j.out;rw[so X,show N-k=(N-k-1)+1 from V,Yv]at b;subst b;clear j d;have a5:((p:Int)+k==n)=true:=by simp;omega
       go_wp2_with fail;go_ret3;exact⟨bi,rfl⟩
      |some x=>
       have X:=(rK.1 d).1;have b:=j.out;rw[Uu d,show N-k=(N-(k+1))+1 from V,vI,show k-1+1=(k+1)-1 from V]at b;obtain⟨a6,b2,M,T⟩:=Y.out k x (by rw[show k=(k-1)+1 from V,List.getElem?_cons_succ];exact d);injection M with M;injection M with e1 e2;subst e1 e2;have a5:((p:Int)+k==n)=false:=by simp;omega
       have af:(p:Int)+k<n:=V;have E:=x.toNat_lt;by_cases hb:x.toNat/64≠2
       ·rw[rv (.inl hb)]at b;have HU:=rq b;clear j b d;have a1:¬bits BinOp.and IntKind.u8 (x.toNat:Int) 192=128:=by rw[Sp _ E];omega
        clear hb;exact oB
       ·have a1:bits BinOp.and IntKind.u8 (x.toNat:Int) 192=128:=by rw[Sp _ E];omega
        have a8:x.toNat/64=2:=V;clear hb;by_cases a3:k=1
        ·subst a3;have l:Aw a.toNat x.toNat=true\/Aw a.toNat x.toNat=false:=by cases Aw a.toNat x.toNat<;>simp
         rcases l with l|l
         ·rw[ru (by rw[l];simp;omega)]at b;have HU:=rq b;have H:=rq l;clear l j b d;go_wp2_with fail;refine(Hw a.toNat x.toNat z E _).mono ?_;rintro e w' ⟨rfl,rfl⟩;rw[H.out];go_wp2_with fail;go_round;case rel=>exact⟨2,C*64+x.toNat%64,by first|rfl|(congr 1;omega),rfl,V,V,V,V,HU⟩
          case measure=>simp[intOf];omega
         ·rw[rv (.inr ⟨rfl,l⟩)]at b;have HU:=rq b;have H:=rq l;clear l j b d;go_wp2_with fail;refine(Hw a.toNat x.toNat z E _).mono ?_;rintro e w' ⟨rfl,rfl⟩;rw[H.out];exact oB
        ·rw[ru V]at b;have HU:=rq b;have ad:((k:Int)==1)=false:=by simp;omega
         clear j b d;go_wp2_with fail;go_round;case rel=>exact⟨k+1,C*64+x.toNat%64,by first|rfl|(congr 1;omega),rfl,V,V,V,V,HU⟩
         case measure=>simp[intOf];omega
def Mq(A:acN)(n c B:Nat)(p:Int)(xs:acM)(w:World)(b:Rd w B A n xs)(g:n<=1000000000)(j: -9223372036854775808<=p)(k:p<=9223372036854775807):Calls Tryz.prog 182 #[.slice A n c,.int .i64 p] w fun e w'=>e=.returned (.tuple #[.int .i32 (uN xs p),.int .i64 (Z1 xs p),.int .i64 (uE xs p)])/\w=w':=by
 have d:=b.len;by_cases a:p<0\/(xs.length:Int)<p
 ·rw[Yt a,Wy a,Ys a];rw[d]at a;clear b d;rcases(show p<0\/(0<=p/\(n:Int)<p)from V)with h|⟨h,i⟩;·go_enter Gr,Ey;go_wp2;go_ret3;exact bH
  ·go_enter Gr,Ey;go_wp2;go_ret3;exact bH
 ·obtain⟨q,rfl⟩:=tD (show 0<=p from V);rw[Ur V,Ol V,Uq V];exact Kq A n c B q xs w b V g
def Wz:Nat->acM->Option Nat
 |_,[]=>some 0
 |0,_::_=>none
 |f+1,a::r=>if(vM (a::r)).2.2=0 then(Wz f ((a::r).drop (vM (a::r)).2.1)).map (·+1)else none
def vA(L:acM):Option Nat:=Wz L.length L
def C9{L:acM}(h:(vM L).2.2=0):1<=(vM L).2.1/\(vM L).2.1<=L.length:=by obtain⟨_,a,_,b⟩:=L5 h;exact⟨a,b⟩
def Mw:∀(f b:Nat)(L:acM),L.length<=f->L.length<=b->Wz f L=Wz b L
 |f,b,[],_,_=>by cases f<;>cases b<;>rfl
 |0,_,_::_,h,_=>fW
 |_+1,0,_::_,_,h=>fW
 |f+1,b+1,a::r,h,e=>
 by
  unfold Wz;by_cases d:(vM (a::r)).2.2=0
  ·rw[rv d,rv d];have i:=C9 d;have g:((a::r).drop (vM (a::r)).2.1).length<=r.length:=by rw[sx];simp;omega
   simp at h e;rw[Mw f b _ V V]
  ·rw[ru d,ru d]
def Om:vA []=some 0:=rfl
def Ji{L:acM}(h:(vM L).2.2=0):vA L=(vA (L.drop (vM L).2.1)).map (·+1):=by
 have b:=C9 h;cases L with
 |nil=>cases h
 |cons a r=>have e:vA (a::r)=Wz (r.length+1) (a::r):=rfl;rw[e,Wz,rv h];congr 1;refine Mw _ _ _ ?_ rT;rw[sx];simp;omega
def HG{L:acM}(b:L≠ [])(h:(vM L).2.2≠0):vA L=none:=by
 cases L with
 |nil=>exact absurd rfl b
 |cons a r=>have e:vA (a::r)=Wz (r.length+1) (a::r):=rfl;rw[e,Wz,ru h]
def ucM(L:acM):Nat:=(vA L).getD 0
def YX(L:acM):Nat:=if(vA L).isSome then 0 else 11
def Gt(xs:acM)(q m:Nat):Prop:=m<=q/\vA xs=(vA (xs.drop q)).map (·+m)
def Gt.zero(xs:acM):Gt xs 0 0:=⟨rN _,by rw[yM];cases vA xs<;>rfl⟩
def Gt.next{xs:acM}{q m:Nat}(h:Gt xs q m)(a:(vM (xs.drop q)).2.2=0):Gt xs (q+(vM (xs.drop q)).2.1) (m+1):=by have b:=C9 a;refine⟨kE,?_⟩;rw[h.2,Ji a,AN,Option.map_map];congr 1;funext z;simp;omega
def Gt.done{xs:acM}{q m:Nat}(h:Gt xs q m)(a:xs.length<=q):vA xs=some m:=by rw[h.2,so a,Om];simp
def Gt.bad{xs:acM}{q m:Nat}(h:Gt xs q m)(b:q<xs.length)(a:(vM (xs.drop q)).2.2≠0):vA xs=none:=by rw[h.2,HG (by intro e;have:=vy List.length e;rw[sx]at this;exact kL) a];rfl
def Qg(A:acN)(n c B:Nat)(xs:acM)(w:World)(o:Rd w B A n xs)(v:n<=1000000000):Calls Tryz.prog 140 #[.slice A n c] w fun e w'=>e=.returned (.tuple #[.int .i64 (ucM xs),.int .i64 (YX xs)])/\w=w':=by
 have E:=o.len;obtain⟨M,k⟩:∃M,M=ucM xs:=⟨_,rfl⟩;obtain⟨d,j⟩:∃d,d=YX xs:=⟨_,rfl⟩;rw[<-k,<-j];have t:=rq k;have r:=rq j;clear k j;go_enter Tryz.func140,Tryz.ntmps140;go_wp2_with fail;go_loop [4,5] (fun m q=>∃z p:Nat,m=.int .i64 z/\q=.int .i64 p/\p<=n/\Gt xs p z) (fun _ q=>n-(intOf q).toNat);case atStart=>exact⟨0,0,rfl,rfl,V,Gt.zero xs⟩
 case
  round=>
   obtain⟨m,q,rfl,rfl,x,b⟩:=hrel;have I:=b.1;by_cases G:q=n
   ·have l:=b.done V;have g:M=m:=by rw[t.out];unfold ucM;rw[l];rfl
    have i:d=0:=by rw[r.out];unfold YX;rw[l];rfl
    subst g i G;clear b l;go_wp2_with fail;go_ret2;exact bH
   ·have H:(q:Int)<n:=V;by_cases a:(vM (xs.drop q)).2.2=0
    ·have y:=b.next a;have F:=C9 a;rw[sx,E]at F;have C:=rq a;have D:=rq y;clear a y b;go_wp2_with fail;refine(Kq A n c B q xs w o x v).mono ?_;rintro e w' ⟨rfl,rfl⟩;rw[C.out];go_wp2_with fail;go_round;case rel=>exact⟨m+1,q+(vM (xs.drop q)).2.1,bi,bi,V,D.out⟩
     case measure=>simp[intOf];omega
    ·have hb:=b.bad V a;have g:M=0:=by rw[t.out];unfold ucM;rw[hb];rfl
     have i:d=11:=by rw[r.out];unfold YX;rw[hb];rfl
     subst g i;have K:(((vM (xs.drop q)).2.2:Int) !=0)=true:=by simp;exact a
     clear b hb a;go_wp2_with fail;refine(Kq A n c B q xs w o x v).mono ?_;rintro e w' ⟨rfl,rfl⟩;go_wp2_with fail;go_ret2;exact bH
def C8(A:acN)(n c B:Nat)(xs:acM)(w:World)(g:Rd w B A n xs)(d:n<=1000000000):Calls Tryz.prog 81 #[.slice A n c] w fun e w'=>e=.returned (.bool (vA xs).isSome)/\w=w':=by
 have a:((YX xs:Int)==0)=(vA xs).isSome:=by unfold YX;cases vA xs<;>rfl
 have b:=rq a;clear a;go_enter Tryz.func81,Tryz.ntmps81;go_wp2_with fail;refine(Qg A n c B xs w g d).mono ?_;rintro e w' ⟨rfl,rfl⟩;go_wp2_with fail;go_ret;exact⟨by rw[<-b.out];rfl,rfl⟩
