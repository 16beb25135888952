import Derived.Test.YtccjlcadbpinfaaGreatDoorX35
set_option linter.all false
set_option maxRecDepth 100000
set_option maxHeartbeats 16000000
namespace Go.Proofs.YtccjlcadbpinfaaGreatDoor.Tp
open ChangeShapes WideShapes ChangeAt RowKit
open Num Mem Can
mutual
def Hv:∀j:J,Br j j=true
 | .mk k i t l ks=>by simp[Br,Hu l]
def Hu:∀l:List J,AJ l l=true
 | []=>rfl
 |x::r=>by simp[AJ,Hv x,Hu r]
end
def Ct{X Y:acO}{A A':acN}{n c n' c':Nat}{ks:List acM}(w:World)(h:Row w X 1 A n (uF ks))(a:Row w Y 1 A' n' (uF ks))(b:n<=1000000000)(d:n'<=1000000000):Calls Tryz.prog 38 #[.slice A n c,.slice A' n' c'] w fun e w'=>e=.returned (.bool true)/\Below w.heap.size w w':=(It w h a b d).mono fun _ _ h=>⟨by rw[h.1,rP rfl],h.2⟩
def Pt{w:World}{X:acO}{A:acN}{n:Nat}{ks:List Int}(h:Row w X 1 A n (yI ks))(i:0<n):∃b off,A=some ⟨b,off,none⟩/\∀j,j<ks.length->w.cell? ⟨b,off+j,none⟩=some (.int .i64 (ks.getD j 0)):=by obtain⟨g,p,d,_,e⟩:=h.pos i;refine⟨g,p,d,fun j a=> ?_⟩;have:=(e j [.int .i64 ks[j]] (by simp[yI,a])).2 0 (.int .i64 ks[j]) rfl;rw[tv,si]at this;rw[this];simp[a]
def KO{X Y:acO}{A A':acN}{n c n' c':Nat}{ks:List Int}(w:World)(h:Row w X 1 A n (yI ks))(a:Row w Y 1 A' n' (yI ks))(o:n<=1000000000)(p:n'<=1000000000):Calls Tryz.prog 43 #[.slice A n c,.slice A' n' c'] w fun e w'=>e=.returned (.bool true)/\Below w.heap.size w w':=by
 have l:ks.length=n:=by have:=h.len;exact eJ
 have m:ks.length=n':=by have:=a.len;exact eJ
 obtain rfl:n=n':=V;by_cases g:n=0;·subst g;exact(Tryz.slices_Equal_int_empty A A' c 0 c' w V).mono fun _ _ h=>⟨by rw[h.1];rfl,h.2▸Below.refl _ _⟩
 ·obtain⟨b,off,rfl,i⟩:=Pt h V;obtain⟨d,AW,rfl,j⟩:=Pt a V;refine(Tryz.slices_Equal_int b off n c d AW n c' ks ks w V V V V i j).mono fun _ _ h=>⟨by rw[h.1];simp,?_⟩
  obtain⟨q,k⟩:=h.2;rw[k];exact vK.drewN q
def PS(f:Fd)(C:acN)(E j:Nat)(p n:Int)(x:ByteArray)(a:acN)(t l:Nat)(g:acN)(z vp:Nat)(D:acN)(F k:Nat)(r o:Int)(y:ByteArray)(d:acN)(v m:Nat)(i:acN)(A B:Nat)(w:World)(X:acO)(T:Bw w X (fL f C E j p n x a t l g z vp) f)(U:Bw w X (fL f D F k r o y d v m i A B) f)(hX:∀b,X b->b<w.heap.size):Calls Tryz.prog 37 #[.agg #[.string ⟨f.name.toArray⟩,.slice C E j,.int .i64 f.type,.bool f.has,.int .i64 p,.int .i64 n,.string x,.slice a t l,.slice g z vp],.agg #[.string ⟨f.name.toArray⟩,.slice D F k,.int .i64 f.type,.bool f.has,.int .i64 r,.int .i64 o,.string y,.slice d v m,.slice i A B]] w fun e w'=>e=.returned (.bool true)/\Below w.heap.size w w':=by
 have I:=((acQ w).al rT (fC f C E j p n x a t l g z vp)).alloc bi (fC f D F k r o y d v m i A B);have M:=(A8.new w f C E j p n x a t l g z vp w.heap.size rfl).below (vK.al rT (fC f D F k r o y d v m i A B)) bi;have N:=A8.new (w.alloc (fC f C E j p n x a t l g z vp)) f D F k r o y d v m i A B (w.heap.size+1) bi;have a1:((w.alloc (fC f C E j p n x a t l g z vp)).alloc (fC f D F k r o y d v m i A B)).heap.size=w.heap.size+2:=bi;go_enter Tryz.func37,Tryz.ntmps37;go_upto_region 1 with fail;generalize(w.alloc (fC f C E j p n x a t l g z vp)).alloc (fC f D F k r o y d v m i A B)=w1 at*;have b8:=rq a1;have bn:w.heap.size+2<=w1.heap.size:=V;clear a1;have Qs:∀b,X b->b<w1.heap.size:=fun b hb=>bl
 have b4:=T.keep (w':=w1) (Y:=X) (fun q K=>I.cell (hX _ K)) (fun _ h=>h);have b5:=U.keep (w':=w1) (Y:=X) (fun q K=>I.cell (hX _ K)) (fun _ h=>h);obtain⟨O,b9,be,Q⟩:=b4.inv;obtain⟨R,bj,bk,S⟩:=b5.inv;have a0:=Ct (c:=j) (c':=k) w1 O R V V;have a2:=fun H(hb:Below w1.heap.size w1 H)=>K8 _ f.sO f.sO rT H X p n x a t l g z vp r o y d v m i A B (Q.stay hb Qs) (S.stay hb Qs) (fun b h=>oE)
 have W:=M;have Z:=N;obtain⟨a3,a4,a5,a6,a7,a8,a9,aa,ab⟩:=M;obtain⟨ac,ad,af,ak,an,ar,aU,b0,b1⟩:=N;clear O R Q S T U;go_wp2_with fail;refine a0.mono ?_;rintro e' H ⟨rfl,G⟩;clear a0 a3 a4 a5 a6 a7 a8 a9 aa ab ac ad af ak an ar aU b0 b1;have L:=a2 H G;have b2:=W.below G V;have b3:=Z.below G V;have b7:=I.trans (G.mono (B':=w.heap.size) V);have bp:=G.size;clear a2 W Z;rw[Hv]at L;obtain⟨a3,a4,a5,a6,a7,a8,a9,aa,ab⟩:=b2;obtain⟨ac,ad,af,ak,an,ar,aU,b0,b1⟩:=b3;go_wp2_with fail;refine L.mono ?_;rintro e' br ⟨rfl,b6⟩;clear L;go_wp2_with fail;go_ret;exact⟨rfl,b7.trans (b6.mono V)⟩
def MO(M:Nat)(b9:∀args w,(callFunc M args).run Tryz.prog w=.ok (.enter M args) w)(lb:Array Value)(l:List Fd)(w:World)(X:acO)(A R:acN)(n c c':Nat)(Z:yJ w X A n l)(a6:yJ w X R n l)(hX:∀b,X b->b<w.heap.size)(bj:n<=100000000)(hP:∀f∈l,∀(i:acN)(C p:Nat)(z x:Int)(G:ByteArray)(a:acN)(E t:Nat)(m:acN)(I vp:Nat)(k:acN)(D r:Nat)(B y:Int)(H:ByteArray)(d:acN)(F v:Nat)(o:acN)(K L:Nat)(w':World),Bw w' X (fL f i C p z x G a E t m I vp) f->Bw w' X (fL f k D r B y H d F v o K L) f->Below w.heap.size w w'->Calls Tryz.prog M (#[.agg #[.string ⟨f.name.toArray⟩,.slice i C p,.int .i64 f.type,.bool f.has,.int .i64 z,.int .i64 x,.string G,.slice a E t,.slice m I vp],.agg #[.string ⟨f.name.toArray⟩,.slice k D r,.int .i64 f.type,.bool f.has,.int .i64 B,.int .i64 y,.string H,.slice d F v,.slice o K L]]++lb) w' fun e a8=>e=.returned (.bool true)/\Below w'.heap.size w' a8):Calls Tryz.prog 42 #[.slice A n c,.slice R n c',.func (.func M) #[] lb] w fun e w'=>e=.returned (.bool true)/\Below w.heap.size w w':=by
 have a9:=rq Z.len;go_enter Tryz.func42,Tryz.ntmps42;go_wp2_with fail;go_loopw [17] (fun Q wr=>∃(j:Nat),Q=.int .i64 j/\j<=n/\Below w.heap.size w wr) (fun Q _=>n-(intOf Q).toNat);case atStart=>exact⟨0,rfl,rO _,Below.refl _ _⟩
 case
  round=>
   obtain⟨j,rfl,be,vu⟩:=hrel;by_cases Y:j<n
   ·have a5:(j:Int)<(n:Int):=V;have a7:=vu.size;have XJ:∀b,X b->b<wr.heap.size:=fun b hb=>bl
    obtain⟨g,q,f,i,C,p,z,x,G,a,E,t,m,I,vp,rfl,hg,hx,⟨b0,b1,b2,b3,b4,b5,b6,b7,b8⟩,S,T,a0,a1⟩:=yY (Z.below vu hX) Y;obtain⟨g',bk,a4,k,D,r,B,y,H,d,F,v,o,K,L,rfl,hg',H5,⟨aa,ab,ac,ad,af,ak,an,ar,aU⟩,U,W,a2,a3⟩:=yY (a6.below vu hX) Y;obtain rfl:f=a4:=eH;have h1:Bw wr X (fL f i C p z x G a E t m I vp) f:=.mk S a0 a1 T;have h2:Bw wr X (fL f k D r B y H d F v o K L) f:=.mk U a2 a3 W;clear S T U W H5;have VK:f∈l:=rL hx;have N:=((acQ wr).al rT (fC f i C p z x G a E t m I vp)).alloc bi (fC f k D r B y H d F v o K L);have DU:=vu.trans (N.mono (B':=w.heap.size) a7);have AD:=hP f VK i C p z x G a E t m I vp k D r B y H d F v o K L ((wr.alloc (fC f i C p z x G a E t m I vp)).alloc (fC f k D r B y H d F v o K L)) (h1.keep (fun q O=>N.cell (XJ _ O)) (fun _ h=>h)) (h2.keep (fun q O=>N.cell (XJ _ O)) (fun _ h=>h)) DU;exact mo
   ·have a5:¬(j:Int)<(n:Int):=V;exact bW
def MQ(O:Nat)(c8:∀args w,(callFunc O args).run Tryz.prog w=.ok (.enter O args) w)(lb:Array Value)(l:List Nd)(w:World)(X:acO)(A T:acN)(n c c':Nat)(W:tV w X A n l)(b2:tV w X T n l)(hX:∀b,X b->b<w.heap.size)(cb:n<=100000000)(hP:∀x∈l,∀(a:acN)(F t:Nat)(i:acN)(H y:Nat)(m:acN)(K B:Nat)(p:acN)(M D:Nat)(d:acN)(G v:Nat)(k:acN)(I z:Nat)(o:acN)(L C:Nat)(r:acN)(N E:Nat)(w':World),Fu w' X (nL x a F t i H y m K B p M D) x->Fu w' X (nL x d G v k I z o L C r N E) x->Below w.heap.size w w'->Calls Tryz.prog O (#[nA x a F t i H y m K B p M D,nA x d G v k I z o L C r N E]++lb) w' fun e b4=>e=.returned (.bool true)/\Below w'.heap.size w' b4):Calls Tryz.prog 40 #[.slice A n c,.slice T n c',.func (.func O) #[] lb] w fun e w'=>e=.returned (.bool true)/\Below w.heap.size w w':=by
 have b5:=rq W.len;go_enter Tryz.func40,Tryz.ntmps40;go_wp2_with fail;go_loopw [17] (fun S wr=>∃(j:Nat),S=.int .i64 j/\j<=n/\Below w.heap.size w wr) (fun S _=>n-(intOf S).toNat);case atStart=>exact⟨0,rfl,rO _,Below.refl _ _⟩
 case
  round=>
   obtain⟨j,rfl,c9,vu⟩:=hrel;by_cases U:j<n
   ·have an:(j:Int)<(n:Int):=V;have b3:=vu.size;have XJ:∀b,X b->b<wr.heap.size:=fun b hb=>bl
    obtain⟨g,q,x,a,F,t,i,H,y,m,K,B,p,M,D,rfl,hg,hx,⟨bs,bv,bx,bz,bO,c3,c4,c5,c6,c7⟩,⟨Y,Z,a0,a1⟩,⟨ac,ad,af,ak⟩,ar,aU,b0,b1⟩:=uW (W.below vu hX) U;obtain⟨g',cc,x',d,G,v,k,I,z,o,L,C,r,N,E,rfl,hg',H5,⟨b6,b7,b8,b9,be,bj,bk,bn,bp,br⟩,⟨s1,s2,a2,a3⟩,⟨a4,a5,a6,a7⟩,a8,a9,aa,ab⟩:=uW (b2.below vu hX) U;obtain rfl:x=x':=eH;have h1:Fu wr X (nL x a F t i H y m K B p M D) x:=.mk Y Z a0 a1 ac ad af ak ar aU b0 b1;have h2:Fu wr X (nL x d G v k I z o L C r N E) x:=.mk s1 s2 a2 a3 a4 a5 a6 a7 a8 a9 aa ab;clear Y Z a0 a1 s1 s2 a2 a3 H5;have VK:x∈l:=rL hx;have Q:=((acQ wr).al rT (nC x a F t i H y m K B p M D)).alloc bi (nC x d G v k I z o L C r N E);have DU:=vu.trans (Q.mono (B':=w.heap.size) b3);have AD:=hP x VK a F t i H y m K B p M D d G v k I z o L C r N E ((wr.alloc (nC x a F t i H y m K B p M D)).alloc (nC x d G v k I z o L C r N E)) (h1.keep (fun q R=>Q.cell (XJ _ R)) (fun _ h=>h)) (h2.keep (fun q R=>Q.cell (XJ _ R)) (fun _ h=>h)) DU;exact mo
   ·have an:¬(j:Int)<(n:Int):=V;exact bW
def PT(x:Nd)(A:acN)(G k:Nat)(i:acN)(g m:Nat)(C:acN)(I o:Nat)(E:acN)(L t:Nat)(B:acN)(H l:Nat)(j:acN)(z n:Nat)(D:acN)(K r:Nat)(F:acN)(M v:Nat)(ad:Nat)(w:World)(X:acO)(b9:Fu w X (nL x A G k i g m C I o E L t) x)(be:Fu w X (nL x B H l j z n D K r F M v) x)(hX:∀b,X b->b<w.heap.size)(bp:w.cell? ⟨ad,0,none⟩=some (.func (.func 37) #[] #[]))(cy:ad<w.heap.size):Calls Tryz.prog 41 #[nA x A G k i g m C I o E L t,nA x B H l j z n D K r F M v,.pointer (some ⟨ad,0,none⟩)] w fun e w'=>e=.returned (.bool true)/\Below w.heap.size w w':=by
 have af:=((acQ w).al rT (nC x A G k i g m C I o E L t)).alloc bi (nC x B H l j z n D K r F M v);have b1:=(wY.new w x A G k i g m C I o E L t w.heap.size rfl).below (vK.al rT (nC x B H l j z n D K r F M v)) bi;have b2:=wY.new (w.alloc (nC x A G k i g m C I o E L t)) x B H l j z n D K r F M v (w.heap.size+1) bi;have br:((w.alloc (nC x A G k i g m C I o E L t)).alloc (nC x B H l j z n D K r F M v)).heap.size=w.heap.size+2:=bi;go_enter Tryz.func41,Tryz.ntmps41;go_upto_region 1 with fail;generalize(w.alloc (nC x A G k i g m C I o E L t)).alloc (nC x B H l j z n D K r F M v)=w1 at*;have dz:=rq br;have ea:w.heap.size+2<=w1.heap.size:=V;clear br;have Qs:∀b,X b->b<w1.heap.size:=fun b hb=>bl
 have ch:=b9.keep (w':=w1) (Y:=X) (fun q b0=>af.cell (hX _ b0)) (fun _ h=>h);have ci:=be.keep (w':=w1) (Y:=X) (fun q b0=>af.cell (hX _ b0)) (fun _ h=>h);have cs:=(af.cell (p:=⟨ad,0,none⟩) cy).trans bp;have ct:ad<w1.heap.size:=V;obtain⟨⟨b3,ar,b4,b5⟩,⟨dK,dM,dN,e0⟩,e1,c8,dB,dI⟩:=ch.inv;obtain⟨⟨b6,aU,b7,b8⟩,⟨e5,e6,e7,e8⟩,e9,e2,e3,e4⟩:=ci.inv;obtain rfl:g=z:=by have:=ar.len;have:=aU.len;omega
 have bs:=Ct (c:=k) (c':=l) w1 b3 b6 V V;have d6:=fun d(hb:Below w1.heap.size w1 d)=>MO 37 (enters_of Tryz.func37 bg rfl) #[] x.fields d X i j g m n (ar.below hb Qs) (aU.below hb Qs) (fun b h=>oE) c8 (fun f _ c4 d2 c9 d0 cz d9 bO d4 cc c6 dj vp c5 d3 cb d1 cS dd c3 d5 cf c7 dk dp w' df di KG=>PS f c4 d2 c9 d0 cz d9 bO d4 cc c6 dj vp c5 d3 cb d1 cS dd c3 d5 cf c7 dk dp w' X df di (fun b h=>by have:=Qs b h;have:=hb.size;exact cY))
 have d7:=fun d(hb:Below w1.heap.size w1 d)=>Ct (c:=o) (c':=r) d (Row.below b4 hb Qs) (Row.below b7 hb Qs) V V
 have d8:=fun d(hb:Below w1.heap.size w1 d)=>KO (c:=t) (c':=v) d (Row.below b5 hb Qs) (Row.below b8 hb Qs) V V
 have ak:=b1;have an:=b2;clear b3 ar b4 b5 b6 aU b7 b8 b9 be bp;obtain⟨⟨N,O,Q,R,S,T,U,W,Z,a0⟩,a1⟩:=b1;obtain⟨⟨a2,a3,a4,a5,a6,a7,a8,a9,aa,ab⟩,ac⟩:=b2;go_wp2_with fail;refine bs.mono ?_;rintro e' d ⟨rfl,bj⟩;clear bs;clear N O Q R S T U W Z a0 a1 a2 a3 a4 a5 a6 a7 a8 a9 aa ab ac;have a:=bj;have y:=a.size;have cx:=(a.cell (p:=⟨ad,0,none⟩) ct).trans cs;have bv:=d6 d a;obtain⟨⟨N,O,Q,R,S,T,U,W,Z,a0⟩,a1⟩:=ak.below a V;obtain⟨⟨a2,a3,a4,a5,a6,a7,a8,a9,aa,ab⟩,ac⟩:=an.below a V;go_wp2_with fail;refine bv.mono ?_;rintro e' dr ⟨rfl,cj⟩;clear bv cx;clear N O Q R S T U W Z a0 a1 a2 a3 a4 a5 a6 a7 a8 a9 aa ab ac;have bk:=bj.trans (cj.mono y);clear a y;have a:=bk;have y:=a.size;have bx:=d7 dr a;obtain⟨⟨N,O,Q,R,S,T,U,W,Z,a0⟩,a1⟩:=ak.below a V;obtain⟨⟨a2,a3,a4,a5,a6,a7,a8,a9,aa,ab⟩,ac⟩:=an.below a V;go_wp2_with fail;refine bx.mono ?_;rintro e' ds ⟨rfl,cl⟩;clear bx;clear N O Q R S T U W Z a0 a1 a2 a3 a4 a5 a6 a7 a8 a9 aa ab ac;have bn:=bk.trans (cl.mono y);clear a y;have a:=bn;have y:=a.size;have bz:=d8 ds a;obtain⟨⟨N,O,Q,R,S,T,U,W,Z,a0⟩,a1⟩:=ak.below a V;obtain⟨⟨a2,a3,a4,a5,a6,a7,a8,a9,aa,ab⟩,ac⟩:=an.below a V;go_wp2_with fail;refine bz.mono ?_;rintro e' eb ⟨rfl,cp⟩;clear bz;clear N O Q R S T U W Z a0 a1 a2 a3 a4 a5 a6 a7 a8 a9 aa ab ac;have cr:=bn.trans (cp.mono y);clear a y;go_wp2_with fail;go_ret;exact⟨rfl,af.trans (cr.mono V)⟩
def PU(S:List Nd)(root:Int)(w:World)(X:acO)(A a:acN)(n c c':Nat)(d:tV w X A n S)(g:tV w X a n S)(hX:∀b,X b->b<w.heap.size)(I:n<=100000000):Calls Tryz.prog 14 #[.agg #[.slice A n c,.int .i64 root],.agg #[.slice a n c',.int .i64 root]] w fun e w'=>e=.returned (.bool true)/\Below w.heap.size w w':=by
 have tm:=(((acQ w).al rT (sC A n c root)).alloc bi (sC a n c' root)).alloc (by simp;omega) (.cells #[.func (.func 37) #[] #[]] 85);have Z:(((w.alloc (sC A n c root)).alloc (sC a n c' root)).alloc (.cells #[.func (.func 37) #[] #[]] 85)).cell? ⟨w.heap.size,0,none⟩=some (.slice A n c):=bf;have a0:(((w.alloc (sC A n c root)).alloc (sC a n c' root)).alloc (.cells #[.func (.func 37) #[] #[]] 85)).cell? ⟨w.heap.size,1,none⟩=some (.int .i64 root):=bf;have u0:(((w.alloc (sC A n c root)).alloc (sC a n c' root)).alloc (.cells #[.func (.func 37) #[] #[]] 85)).cell? ⟨w.heap.size+1,0,none⟩=some (.slice a n c'):=bf;have a1:(((w.alloc (sC A n c root)).alloc (sC a n c' root)).alloc (.cells #[.func (.func 37) #[] #[]] 85)).cell? ⟨w.heap.size+1,1,none⟩=some (.int .i64 root):=bf;have U:(((w.alloc (sC A n c root)).alloc (sC a n c' root)).alloc (.cells #[.func (.func 37) #[] #[]] 85)).cell? ⟨w.heap.size+2,0,none⟩=some (.func (.func 37) #[] #[]):=bf;have i:(((w.alloc (sC A n c root)).alloc (sC a n c' root)).alloc (.cells #[.func (.func 37) #[] #[]] 85)).heap.size=w.heap.size+3:=bi;go_enter Tryz.func14,Tryz.ntmps14;go_upto_region 2 with fail;generalize(((w.alloc (sC A n c root)).alloc (sC a n c' root)).alloc (.cells #[.func (.func 37) #[] #[]] 85))=w1 at*;have W:=rq i;have Y:w.heap.size+3<=w1.heap.size:=V;clear i;have Qs:∀b,X b->b<w1.heap.size:=fun b hb=>bl
 have hq:=MQ 41 (enters_of Tryz.func41 bg rfl) #[.pointer (some ⟨w.heap.size+2,0,none⟩)] S w1 X A a n c c' (d.below tm hX) (g.below tm hX) Qs I (fun x _ j K v l M z o O C r R E k L y m N B q Q D t T F w' G H hb=>PT x j K v l M z o O C r R E k L y m N B q Q D t T F (w.heap.size+2) w' X G H (fun b h=>oE) ((hb.cell (p:=⟨w.heap.size+2,0,none⟩) bd).trans U) dE);clear d g;exact mW
def L3:∀(l:acM)(N:Int)(O:Bool), -9223372036854775808<=N->N<=0-> -9223372036854775808<=(zo l N O).1/\(zo l N O).1<=0
 | [],N,O,a,b=>⟨a,b⟩
 |c::r,N,O,a,b=>
 by
  unfold zo;split;·rename_i d;have:=Hi (O:=O) a b d;exact L3 r _ _ this.1 this.2
  ·exact⟨a,b⟩
def V0(xs:acM)(a:Nat): -9223372036854775808<=QU xs a/\QU xs a<=9223372036854775807:=by
 have h:=L3 (xs.drop (xA xs a)) 0 false V V;unfold QU NU;split;·omega
 ·unfold wrap64;omega
def Ke{xs:acM}:∀(f a:Nat)(ts:acM),a<=xs.length->(Dg xs f a ts).1.length<=ts.length+4*f
 |0,a,ts,_=>by simp[Dg]
 |f+1,a,ts,l=>
 by
  unfold Dg;split;·simp
  ·split;·simp
   ·rename_i j k;split
    ·rename_i g;have m:a<xs.length:=L9 (by rw[g];decide);obtain⟨b,e,d,_⟩:=OQ (xs:=xs) (a:=a+1) V;split;·have:=Ke (xs:=xs) f (wD xs (a+1)).1 (ts++(wD xs (a+1)).2.1) b;rw[rC]at this;omega
     ·simp
    ·split;·rename_i i;obtain⟨_,b,e,d⟩:=Ut.L5 i;rw[sx]at d;have:=Ke (xs:=xs) f (a+(Ut.vM (xs.drop a)).2.1) (ts++(xs.drop a).take (Ut.vM (xs.drop a)).2.1) V;rw[rC,xx,sx]at this;omega
     ·simp
def RS(w:Wd):Prop:=w.text.length<=1000000/\ -9223372036854775808<=w.int/\w.int<=9223372036854775807
def zX{xs:acM}{a:Nat}{w:Wd}(i:xs.length<=20000)(d:a<=xs.length)(h:se xs a=.ok w):RS w:=by
 have g:=Ml d;unfold se at h;split at h;·injection h with h;subst h;exact⟨bi,bi,bi⟩
 ·rename_i e;split at h
  ·injection h with h;subst h;unfold RS;simp only;generalize vH xs a=b at*;unfold uT;split;·exact⟨bi,bi,bi⟩
   ·split;·have:=Ke (xs:=xs) (xs.length+1-(b+1)) (b+1) [] V;simp only[sc]at this;exact⟨bd,bi,bi⟩
    ·split;·have:=V0 xs b;exact⟨bi,this.1,this.2⟩
     ·unfold yL;repeat' split
      all_goals exact⟨bi,bi,bi⟩
  ·cases h
def Fx(xs:acM)(b:Nat)(R:Option (Except Int (J×Nat))):Prop:=∃r,R=some r/\∀j a,r=.ok (j,a)->b<=a/\a<=xs.length/\xC j
def Fx.err{xs:acM}{b:Nat}{e:Int}:Fx xs b (some (.error e)):=⟨_,rfl,fun j a h=>bX⟩
def Fx.ok{xs:acM}{b a:Nat}{j:J}(d:b<=a)(g:a<=xs.length)(h:xC j):Fx xs b (some (.ok (j,a))):=⟨_,rfl,fun k i e=>by injection e with e;injection e with e1 e2;subst e1 e2;exact⟨d,g,h⟩⟩
def Fx.mono{xs:acM}{b d:Nat}{R:Option (Except Int (J×Nat))}(h:Fx xs b R)(hb:d<=b):Fx xs d R:=by obtain⟨r,g,i⟩:=h;exact⟨r,g,fun j a e=>by have:=i j a e;exact⟨V,this.2⟩⟩
def Db(k i:Int)(t:acM)(d:t.length<=1000000)(a: -9223372036854775808<=i)(b:i<=9223372036854775807):xC (.mk k i t [] []):=.mk d bi a b bi bi
def Ei(l:List J)(a:∀x∈l,xC x):xC (.mk 5 0 [] l []):=.mk bi bi bi bi bi a
def DC(l:List J)(ks:List acM)(b:∀x∈l,xC x)(a:∀x∈ks,x.length<=1000000)(h:ks.length=l.length):xC (.mk 6 0 [] l ks):=.mk bi a bi bi (fun _=>h) b
def all_some{xs:acM}(m:xs.length<=20000):∀f:Nat,(∀(w:Wd)(d:Nat),w.next<=xs.length->RS w->(w.kind=11/\1<=f\/4*(xs.length-w.next)+6<=f)->Fx xs w.next (vB xs f w d))/\(∀a d:Nat,a<=xs.length->4*(xs.length-a)+5<=f->Fx xs a (Dn xs f a d))/\(∀(w:Wd)(d:Nat)(l:List J),w.next<=xs.length->RS w->(w.kind=11/\2<=f\/4*(xs.length-w.next)+7<=f)->(∀x∈l,xC x)->Fx xs w.next (AT xs f w d l))/\(∀a d:Nat,a<=xs.length->4*(xs.length-a)+5<=f->Fx xs a (Io xs f a d))/\(∀(w:Wd)(d:Nat)(l:List J)(ks:List acM),w.next<=xs.length->RS w->(w.kind=11/\2<=f\/4*(xs.length-w.next)+7<=f)->(∀x∈l,xC x)->(∀x∈ks,x.length<=1000000)->ks.length=l.length->Fx xs w.next (yp xs f w d l ks)):=by
 intro f;induction f with
 |zero=>exact⟨fun _ _ _ _ h=>V,fun _ _ _ h=>V,fun _ _ _ _ _ h=>V,fun _ _ _ h=>V,fun _ _ _ _ _ _ h=>V⟩
 |succ f U=>
  obtain⟨H,M,F,N,E⟩:=U;refine⟨?_,?_,?_,?_,?_⟩
  ·intro w d hw G1 n;unfold vB;split;·exact .ok rT hw (Db _ _ _ bi bi bi)
   ·split;·exact nT
    ·split;·exact nT
     ·split;·exact .ok rT hw (Db _ _ _ G1.1 bi bi)
      ·split
       ·rename_i h3;split;·exact .err
        ·exact M w.next _ hw V
       ·split
        ·rename_i C;split;·exact .err
         ·exact N w.next _ hw V
        ·exact .err
  ·intro a d i n;unfold Dn;cases b:se xs a with
   |error e=>exact .err
   |ok w=>
    have hi:=ux i b;have G1:=zX m i b;simp only;split;·exact .ok V hi.1 (Ei [] bi)
    ·refine(F w d [] hi.1 G1 ?_ bi).mono V;exact nu
  ·intro w d l hw G1 n hl;unfold AT;obtain⟨r,o,z⟩:=H w d hw G1 V;rw[o];cases r with
   |error e=>exact .err
   |ok p=>
    obtain⟨j,a⟩:=p;obtain⟨C,q,h3⟩:=z j a rfl;have k:∀x∈l++[j],xC x:=fI;have Zm:w.kind≠11:=by
     intro Zm;cases f with
     |zero=>omega
     |succ f=>simp[vB,Zm]at o
    simp only;cases b:se xs a with
    |error e=>exact .err
    |ok A=>
     have hi:=ux q b;simp only;split;·exact .ok V hi.1 (Ei _ k)
     ·split
      ·rename_i D;cases g:se xs A.next with
       |error e=>exact .err
       |ok B=>have y:=ux hi.1 g;have t:=zX m hi.1 g;have:=hi.2.2 (by rw[D];decide);exact(F B d _ y.1 t V k).mono V
      ·exact .err
  ·intro a d i n;unfold Io;cases b:se xs a with
   |error e=>exact .err
   |ok w=>
    have hi:=ux i b;have G1:=zX m i b;simp only;split;·exact .ok V hi.1 (DC [] [] bi bi rfl)
    ·refine(E w d [] [] hi.1 G1 ?_ bi bi rfl).mono V;exact nu
  ·intro w d l ks hw G1 n hl S T;unfold yp;split;·exact .err
   ·rename_i X;split;·exact .err
    ·cases b:se xs w.next with
     |error e=>exact .err
     |ok wc=>
      have hi:=ux hw b;simp only;split;·exact .err
      ·rename_i L;cases G:se xs wc.next with
       |error e=>exact .err
       |ok W=>
        have R:=ux hi.1 G;have Q:=zX m hi.1 G;have:=hi.2.2 (by intro h;exact L (by rw[h];decide));simp only;obtain⟨r,o,z⟩:=H W d R.1 Q V;rw[o];cases r with
        |error e=>exact .err
        |ok p=>
         obtain⟨j,a⟩:=p;obtain⟨C,q,h3⟩:=z j a rfl;have k:∀x∈l++[j],xC x:=fI;have I:∀x∈ks++[w.text],x.length<=1000000:=by
          intro x H5;rw[sl,sH]at H5;rcases H5 with h|rfl;·exact S x h
          ·exact G1.1
         have K:(ks++[w.text]).length=(l++[j]).length:=by simp[T]
         simp only;cases O:se xs a with
         |error e=>exact .err
         |ok A=>
          have v:=ux q O;simp only;split;·exact .ok V v.1 (DC _ _ k I K)
          ·split
           ·rename_i D;cases g:se xs A.next with
            |error e=>exact .err
            |ok B=>have y:=ux v.1 g;have t:=zX m v.1 g;exact(E B d _ _ y.1 t V k I K).mono V
           ·exact .err
def Hj(xs:acM):∃R,Aj xs 100000=some R/\∀j,R=.ok j->xC j:=by
 unfold Aj;split;·exact nb
 ·rename_i m;cases b:se xs 0 with
  |error e=>exact nb
  |ok w=>
   have g:=ux (rO _) b;obtain⟨r,i,k⟩:=(all_some V 100000).1 w 0 g.1 (zX V (rO _) b) (.inr V);simp only;rw[i];cases r with
   |error e=>exact nb
   |ok p=>
    obtain⟨j,a⟩:=p;obtain⟨_,_,d⟩:=k j a rfl;simp only;cases l:se xs a with
    |error e=>exact nb
    |ok o=>
     simp only;split;·exact⟨_,rfl,fun n h=>by injection h with h;subst h;exact d⟩
     ·exact nb
def UP:∀(N:Nat)(j:J),SizeOf.sizeOf j<=N->xC j->tE j:=by
 intro N;induction N with
 |zero=>exact eX
 |succ N d=>
  intro j hj h;cases h with
  |mk k b e g i a=>refine .mk V (fun x hx=>by have:=b x hx;omega) (fun x hx=>d x ?_ (a x hx));exact jW
def xC.small{j:J}(h:xC j):tE j:=UP _ j rT h
structure YG(f:Fd):Prop where
 name:f.name.length<=1000000
 alias:∀a∈f.aliases,a.length<=1000000
 sO:xC f.sO
structure FL(x:Nd):Prop where
 name:x.name.length<=1000000
 alias:∀a∈x.aliases,a.length<=1000000
 fields:∀f∈x.fields,YG f
 symbols:∀a∈x.symbols,a.length<=1000000
 sO:x.sO.length<=1000000
def Yz:∀(N:Nat)(j:J),SizeOf.sizeOf j<=N->xC j->RX j:=by
 intro N;induction N with
 |zero=>intro j h;cases j;simp at h
 |succ N i=>
  intro j g h;cases h with
  |mk m l b d k e=>refine .mk b d (fun x a=>i x ?_ (e x a));have:=vd a;simp at g;omega
def xC.smi{j:J}(h:xC j):KF j:=⟨h.small,Yz _ j rT h⟩
def FL.sm{x:Nd}(h:FL x):MG x:=⟨by have:=h.name;omega,fun a b=>by have:=h.alias a b;omega,fun f d=>⟨by have:=(h.fields f d).name;omega,fun a b=>by have:=(h.fields f d).alias a b;omega,(h.fields f d).sO.small⟩,fun a b=>by have:=h.symbols a b;omega,by have:=h.sO;omega⟩
def xC.Wx{j:J}(h:xC j):j.text.length<=1000000:=by cases h with|mk a i b d e g=>exact a
def xC.item{j x:J}(h:xC j)(b:x∈j.items):xC x:=by cases h with|mk k i d e g a=>exact a x b
def Dc:xC J.zero:=Db 0 0 [] bi V V
def xC.get{j:J}(h:xC j)(key:acM):xC (getD j key):=by
 unfold getD;cases a:tZ j key with
 |none=>exact Dc
 |some x=>
  unfold tZ at a;split at a;·exact h.item (rL a)
  ·cases a
def aaR(k:Int):FL {Cn with kind:=k}:=⟨dH,dH,dH,dH,dH⟩
def BK{n:Nd}(h:FL n)(b:List Hd)(e:Int):∀x∈(vJ n b e).2.1,FL x:=fun x a=>
 by
  unfold vJ at a;split at a;·rw[sH.1 a];exact h
  ·cases a
def GY(s ar:acM)(b:List Hd)(e:Int):∀x∈(zA s ar b e).2.1,FL x:=fun x a=>
 by
  unfold zA at a;split at a;·exact BK (aaR _) _ _ x a
  ·cases a
def QI{a s n:acM}(h:vv a s=some n):n.length<=100:=by
 unfold vv at h;split at h;·cases h
 ·split at h;·rename_i b;injection h with h;subst h;simp only[vQ,rG,rQ]at b;exact b.1
  ·cases h
def Pm{a s:acM}:(FV (vv a s)).length<=100:=by
 cases h:vv a s with
 |none=>simp[FV]
 |some n=>exact QI h
def V7{n s a:acM}{g:Bool}:(FV (yz n s g a)).length<=100:=by unfold yz;split<;>exact Pm
def Dw{x:J}(h:xC x)(e:Int):∀s∈(xR x e).1,s.length<=1000000:=fun s a=>by obtain⟨y,b,rfl⟩:=sR.1 a;exact(h.item b).Wx
def DT{full:acM->acM×Bool}(b:∀s,s.length<=1000000->(full s).1.length<=1000000){j:J}(h:xC j)(e:Int):∀s∈(xd full j e).1,s.length<=1000000:=fun s a=>
 by
  unfold xd at a;split at a;·obtain⟨y,d,rfl⟩:=sR.1 a;exact b y (Dw (h.get _) _ y d)
  ·cases a
def EF{j:J}(h:xC j)(k:Int)(ar:acM)(b:List Hd)(e:Int):FL (zi j k ar b e).1:=⟨by have:=V7 (n:=(xf j vw e).1) (s:=(if has j uV=true then xf j uV (xf j vw e).2 else([],(xf j vw e).2)).1) (g:=has j uV) (a:=ar);exact sG this V,DT (fun s _=>sG Pm V) h _,by simp[zi,Cn],by simp[zi,Cn],by simp[zi,Cn]⟩
def Ny{j:J}(h:xC j)(l:List Fd)(e:Int):YG (Ds j l e).1:=⟨(h.get _).Wx,DT (fun s a=>a) h _,h.get _⟩
def LC{nd:J->List Hd->Int->Bn}(a:List Hd):∀(l:List J),(∀j∈l,∀a e,∀x∈(nd j a e).2.1,FL x)->∀(d:List Int)(new:List Nd)(e:Int),(∀x∈new,FL x)->∀x∈(Li nd a l d new e).2.2.1,FL x
 | [],_,_,_,_,b=>b
 |j::r,i,d,new,e,b=>
 by
  have g:∀x∈new++(nd j (a++new.map sQ) e).2.1,FL x:=fun x k=>
   by
    rcases sl.1 k with h|h;·exact b x h
    ·exact i j bi _ _ x h
  unfold Li;split;·exact LC a r (fun j hj=>i j jg) _ _ _ g
  ·exact g
def GW{nd:J->List Hd->Int->Bn}(a:List Hd):∀(l:List J),(∀j∈l,xC j)->(∀j,xC j->∀a e,∀x∈(nd j a e).2.1,FL x)->∀(b:List Fd)(new:List Nd)(e:Int),(∀f∈b,YG f)->(∀x∈new,FL x)->(∀f∈(Lg nd a l b new e).2.1,YG f)/\∀x∈(Lg nd a l b new e).2.2.1,FL x
 | [],_,_,_,_,_,d,g=>⟨d,g⟩
 |x::r,m,k,b,new,e,d,g=>
 by
  have o:=m x bi;have i:=Ny o b e;have n:∀j∈r,xC j:=fun j hj=>m j jg
  unfold Lg;split
  ·simp only;split
   ·refine GW a r n k _ _ _ (fun f h=> ?_) (fun y h=> ?_)
    ·rcases sl.1 h with h|h;·exact d f h
     ·rw[sH.1 h];exact⟨i.name,i.alias,i.sO⟩
    ·rcases sl.1 h with h|h;·exact g y h
     ·exact k _ (o.get _) _ _ y h
   ·refine GW a r n k _ _ _ (fun f h=> ?_) g;rcases sl.1 h with h|h;·exact d f h
    ·rw[sH.1 h];exact i
  ·exact⟨d,g⟩
def EG:∀(F:Nat)(j:J),xC j->∀(ar:acM)(d:List Hd)(e:Int),∀x∈(tN F j ar d e).2.1,FL x
 |0,_,_,_,_,_,x,a=>by cases a
 |F+1,j,g,ar,d,e,x,a=>
 by
  have l:=EG F;unfold tN at a;split at a
  ·split at a;·exact GY _ _ _ _ x a
   ·split at a
    ·unfold AQ at a;split at a
     ·rcases sg.1 a with rfl|a;·exact ob
      ·exact LC _ _ (fun y i=>l y (g.item i) ar) _ _ _ bi x a
     ·cases a
    ·split at a
     ·unfold xJ at a;simp only at a;have m:∀k key,x∈(Cd (fun j=>tN F j ar) j k key d 0).2.1->FL x:=fun k key h=>
       by
        unfold Cd at h;split at h
        ·rcases sg.1 h with rfl|h;·exact ob
         ·exact l _ (g.get _) _ _ _ x h
        ·cases h
      split at a
      ·split at a;·exact m _ _ a
       split at a;·exact m _ _ a
       split at a
       ·have b:=EF g ((wg (xf j tp 0).1:Nat):Int) ar d 0;generalize zi j _ ar d 0=H at a b;unfold zM at a;simp only at a;split at a
        ·have hb:=GW (nd:=fun j=>tN F j (sE H.1.name)) (d++[sQ H.1]) (getD j ug).items (fun y i=>(g.get _).item i) (fun y i d e=>l y i _ d e) [] [] 0 bi bi;rcases sg.1 a with rfl|a;·exact⟨b.name,b.alias,hb.1,b.symbols,b.sO⟩
         ·exact hb.2 x a
        ·cases a
       split at a
       ·have b:=EF g ((wg (xf j tp 0).1:Nat):Int) ar d 0;generalize zi j _ ar d 0=H at a b;unfold Fc at a;simp only at a;split at a;·refine BK ?_ _ _ x a;exact⟨b.name,b.alias,b.fields,Dw (g.get ub) H.2,(g.get sF).Wx⟩
        ·refine BK ?_ _ _ x a;exact⟨b.name,b.alias,b.fields,Dw (g.get ub) H.2,b.sO⟩
       split at a;·have b:=EF g ((wg (xf j tp 0).1:Nat):Int) ar d 0;generalize zi j _ ar d 0=H at a b;unfold Gv at a;refine BK ?_ _ _ x a;exact⟨b.name,b.alias,b.fields,b.symbols,b.sO⟩
       ·exact GY _ _ _ _ x a
      ·cases a
     ·cases a
  ·cases a
