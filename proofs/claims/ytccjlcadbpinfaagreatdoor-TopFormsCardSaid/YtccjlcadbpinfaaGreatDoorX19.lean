import Derived.Test.YtccjlcadbpinfaaGreatDoorX18
set_option linter.all false
set_option maxRecDepth 100000
set_option maxHeartbeats 16000000
namespace Go.Proofs.YtccjlcadbpinfaaGreatDoor.Tp
open ChangeShapes WideShapes ChangeAt RowKit
open Num Mem Can
def xU(S:List Nd)(k:Int):Int:=match S[k.toNat]? with|some x=>x.kind|none=>0
def Cf(S:List Nd)(a k m:Int):Bool:=decide (m=k)||(!sf a&&decide (xU S m=a))
def AY(S:List Nd)(all:List Int):Nat->List Int->Bool
 |_,[]=>true
 |j,k::r=> !decide (xU S k=13)&& !((all.take j).any (Cf S (xU S k) k))&&AY S all (j+1) r
def B9(S:List Nd)(l:List Int):Bool:=decide (1<=l.length)&&decide (l.length<=10)&&AY S l 0 l
def Qf(S:List Nd)(kd k m:Int)(b6 b7 b2:Nat)(A:acN)(n c:Nat)(w:World)(X:acO)(D:tV w X A n S)(C:∀b,X b->b<w.heap.size)(y:w.cell? ⟨b6,0,none⟩=some (.int .i64 k))(z:w.cell? ⟨b7,0,none⟩=some (.int .i64 kd))(v:w.cell? ⟨b2,0,none⟩=some (.slice A n c))(W:b6<w.heap.size)(Y:b7<w.heap.size)(U:b2<w.heap.size)(a9:0<=m)(aa:m<n):Calls Tryz.prog 179 #[.int .i64 m,.pointer (some ⟨b6,0,none⟩),.pointer (some ⟨b7,0,none⟩),.pointer (some ⟨b2,0,none⟩)] w fun e w'=>e=.returned (.bool (Cf S kd k m))/\Below w.heap.size w w':=by
 obtain⟨j,rfl⟩:∃j:Nat,m=(j:Int):=⟨m.toNat,V⟩;have a1:j<n:=V;have a8:(j:Int)<(n:Int):=V;have B:xU S (j:Int)=match S[j]? with|some x=>x.kind|none=>0:=rfl
 obtain⟨R,a⟩:∃R,R=Cf S kd k (j:Int):=⟨_,rfl⟩;rw[<-a];unfold Cf at a;rw[B]at a;have HR:=rq a;have t:=fun w1=>ve kd w1
 clear a B;go_enter Tryz.func179,Tryz.ntmps179;go_upto_region 1 with fail;refine su [0,1,2,3,4,5,6,7,8,9,10,11,12,13,14,15,16,17,18] [5] bg bg bi bg (fun _ _ d _ _ h=>bw) (fun wd hd sW=> ?_);obtain⟨q,p,x,a2,ac,c1,a3,ad,c2,a4,af,a6,a5,ak,a7,rfl,Z,E,⟨e0,G,H,I,K,L,M,N,O,T⟩,_,_,_⟩:=uW (D.below hd C) a1;have ab:=C q Z;have d6:=(hd.cell (p:=⟨b6,0,none⟩) W).trans y;have d7:=(hd.cell (p:=⟨b7,0,none⟩) Y).trans z;have d2:=(hd.cell (p:=⟨b2,0,none⟩) U).trans v;have r:=rq E;clear G H I K L M N O T y z v E D;by_cases g:(j:Int)=k
 ·have a0:((j:Int)==k)=true:=tB.2 g;obtain rfl:R=true:=by rw[HR.out,rP g];rfl
  clear HR g r t;refine aA ?_;refine sB rfl rfl w.heap.size rT (fun F i=> ?_);go_wp2_with fail;refine i _ _ vK ?_;clear i;refine aA ?_;exact ew
 ·have a0:((j:Int)==k)=false:=rr.2 g;have a:=HR.out;rw[rF g,tU,r.out]at a;simp only at a;have l:=rq a;clear a HR g r;refine aA ?_;refine sB rfl rfl w.heap.size rT (fun F i=> ?_);go_wp2_with fail;refine(t _).mono ?_;rintro e' an ⟨rfl,rfl⟩;go_wp2_with fail;refine i _ _ vK ?_;clear i t;cases o:sf kd with
  |true=>have a:=l.out;rw[o]at a;obtain rfl:R=false:=a;clear l o;refine aA ?_;exact ew
  |false=>have a:=l.out;rw[o,xw,rU]at a;have HR:=rq a;clear a o l;refine aA ?_;exact gM
def Rq(S:List Nd)(l:List Int)(root:Int)(w:World)(X:acO)(A:acN)(n c:Nat)(A':acN)(m d:Nat)(a1:tV w X A n S)(a2:Row w X 1 A' m (yI l))(hX:∀b,X b->b<w.heap.size)(c3:n<=100000000)(bv:m<=100000000)(bO:m<=d)(W:∀k∈l,0<=k/\k<(n:Int)):Calls Tryz.prog 130 #[.agg #[.slice A n c,.int .i64 root],.slice A' m d] w fun e w'=>e=.returned (.bool (B9 S l))/\Below w.heap.size w w':=by
 have G:l.length=m:=by have:=a2.len;exact eJ
 obtain⟨R,i⟩:∃R,R=B9 S l:=⟨_,rfl⟩;rw[<-i];unfold B9 at i;rw[G]at i;have D:=rq i;have HL:=rq G;clear i G;have Q:=(acQ w).al rT (sC A n c root);have b0:(w.alloc (sC A n c root)).cell? ⟨w.heap.size,0,none⟩=some (.slice A n c):=bf;have af:w.heap.size<(w.alloc (sC A n c root)).heap.size:=bi;go_enter Tryz.func130,Tryz.ntmps130;go_upto_region 1 with fail;generalize w.alloc (sC A n c root)=w1 at*;by_cases T:m<1\/10<m
 ·obtain rfl:R=false:=by
   rw[D.out];rcases T with h|h;·rw[rF V];rfl
   ·rw[rF (p:=m<=10) V];simp
  rcases(show(m:Int)<1\/(¬(m:Int)<1/\(10:Int)<(m:Int))from V)with h|⟨h,bk⟩;all_goals go_wp2_with fail;go_ret;exact⟨rfl,Q⟩
 ·have bx:¬(m:Int)<1:=V;have bz:¬(10:Int)<(m:Int):=V;have i:=D.out;rw[rP (by omega:1<=m),rP (by omega:m<=10)]at i;simp only[rU]at i;have M:=rq i;clear i D T;go_wp2_with fail;go_loopw [18] (fun L wr=>∃j:Nat,L=.int .i64 j/\j<=m/\R=AY S l j (l.drop j)/\Below w.heap.size w wr/\wr.cell? ⟨w.heap.size,0,none⟩=some (.slice A n c)/\w.heap.size<wr.heap.size) (fun L _=>m-(intOf L).toNat);case atStart=>exact⟨0,rfl,rO _,M.out,Q,b0,af⟩
  case
   round=>
    obtain⟨j,rfl,a9,a0,vu,b1,ak⟩:=hrel;have C:=rq a0;clear a0 M;by_cases aa:j<m
    ·have bp:(j:Int)<(m:Int):=V;have F:j<l.length:=by rw[HL.out];exact aa
     have H:=Row.below a2 vu hX;obtain⟨g,q,rfl,a7,U⟩:=H.pos V;have Y:=(U j [.int .i64 l[j]] (by simp[yI,F])).2 0 _ rfl;rw[tv,si]at Y;have I:=Ht H a9;have N:(yI l).take j=yI (l.take j):=by simp[yI]
     rw[N]at I;have a:=C.out;rw[rH F,AY]at a;have ab:=W l[j] (rY F);have Z:∀y∈l.take j,0<=y/\y<(n:Int):=fun y B=>W y (List.mem_of_mem_take B)
     clear U N H;generalize l[j]=k at*;obtain⟨k,rfl⟩:∃ar:Nat,k=(ar:Int):=⟨k.toNat,V⟩;have ac:k<n:=V;have bs:(k:Int)<(n:Int):=V;obtain⟨K,aU,x,b6,c7,c1,b7,c8,c2,b8,c9,be,b9,cb,bj,rfl,a8,a3,⟨a5,_,_,_,_,_,_,_,_,_⟩,_,_,_⟩:=uW (a1.below vu hX) ac;have c4:K<wr.heap.size:=by have:=hX K a8;exact jq
     have bn:g<wr.heap.size:=by have:=hX g a7;exact jq
     have O:xU S (k:Int)=x.kind:=by unfold xU;rw[rW,a3]
     rw[O]at a;have r:=rq a;have E:=((acQ wr).al rT (.cells #[.int .i64 (k:Int)] 3)).al (sG rT bi) (.cells #[.int .i64 x.kind] 3);have b2:((wr.alloc (.cells #[.int .i64 (k:Int)] 3)).alloc (.cells #[.int .i64 x.kind] 3)).cell? ⟨wr.heap.size,0,none⟩=some (.int .i64 (k:Int)):=bf;have b3:((wr.alloc (.cells #[.int .i64 (k:Int)] 3)).alloc (.cells #[.int .i64 x.kind] 3)).cell? ⟨wr.heap.size+1,0,none⟩=some (.int .i64 x.kind):=bf;have c5:((wr.alloc (.cells #[.int .i64 (k:Int)] 3)).alloc (.cells #[.int .i64 x.kind] 3)).heap.size=wr.heap.size+2:=bi;clear a C ab O a3;go_upto_region 7 with fail;generalize(wr.alloc (.cells #[.int .i64 (k:Int)] 3)).alloc (.cells #[.int .i64 x.kind] 3)=b4 at*;have AZ:=vu.sV V E;have a4:=(E.cell (p:=⟨w.heap.size,0,none⟩) ak).trans b1;have ad:=a1.below AZ hX;have an:=Row.below I E (fun b hb=>bl);clear a5 Y I;have o:=Di 179 (enters_of Tryz.func179 bg rfl) #[.pointer (some ⟨wr.heap.size,0,none⟩),.pointer (some ⟨wr.heap.size+1,0,none⟩),.pointer (some ⟨w.heap.size,0,none⟩)] (Cf S x.kind (k:Int)) (l.take j) b4 X (some ⟨g,q,none⟩) j d an (fun b hb=>bl) V (fun y B w' KG=>by refine Qf S x.kind (k:Int) y wr.heap.size (wr.heap.size+1) w.heap.size (some ⟨K,aU,none⟩) n c w' X (ad.below KG (fun b hb=>bl)) (fun b hb=>oD) ((KG.cell bd).trans b2) ((KG.cell bd).trans b3) ((KG.cell bd).trans a4) cY cY cY (Z y B).1 (Z y B).2);by_cases t:x.kind=13
     ·have a6:(x.kind==13)=true:=tB.2 t;obtain rfl:R=false:=by rw[r.out,rP t];rfl
      clear r t o;exact bR
     ·have a6:(x.kind==13)=false:=rr.2 t;have a:=r.out;rw[rF t,xw,rU]at a;clear r t;cases z:(l.take j).any (Cf S x.kind (k:Int))with
      |true=>
       rw[z]at a o;have e:R=false:=by rw[a];rfl
       clear a z;subst e;go_wp2_with fail;refine o.mono ?_;rintro e' b5 ⟨rfl,v⟩;clear o;go_wp2_with fail;go_ret;exact⟨rfl,AZ.sV V v⟩
      |false=>rw[z]at a o;rw[xw,rU]at a;have r:=rq a;clear a z;go_wp2_with fail;refine o.mono ?_;rintro e' b5 ⟨rfl,v⟩;clear o;have c6:=v.size;go_wp2_with fail;refine⟨⟨j+1,bi,V,r.out,AZ.sV V v,(v.cell bd).trans a4,V⟩,?_⟩;exact bK
    ·obtain rfl:j=m:=V;have a:=C.out;rw[th cK,AY]at a;subst a;have br:¬(j:Int)<(j:Int):=V;exact bW
structure MG(x:Nd):Prop where
 name:x.name.length<=100000000
 alias:∀a∈x.aliases,a.length<=100000000
 fields:∀f∈x.fields,SmF f
 symbols:∀a∈x.symbols,a.length<=100000000
 sO:x.sO.length<=100000000
def D8(x:Nd):Bool:= !sf x.kind||(vQ x.name&&(decide (wg x.name=0)&&Ie vQ x.aliases))
def II(x:Nd):Bool:=(decide (x.has=x.symbols.contains x.sO)&&(x.has||decide (x.sO=[])))&&(decide (1<=x.symbols.length)&&(decide (x.symbols.length<=40)&&Cg wa x.symbols))
def kindOk(S:List Nd)(x:Nd):Bool:=if x.kind=9 then yo x.fields else if x.kind=10 then II x else if x.kind=14 then decide (0<=x.size)&&decide (x.size<=1000)else if x.kind=13 then B9 S x.rR else true
def uZ(S:List Nd)(x:Nd):Bool:=(decide (1<=x.kind)&&decide (x.kind<=14))&&(Ce x&&(D8 x&&kindOk S x))
def GV{B:Nat}{b:World}(g:vE b)(d:b.heap.size=B)(ks:List acM)(h:∀a∈ks,a.length<=100000000):∀x∈ks,∀w',Below B b w'->Calls Tryz.prog 46 #[.string ⟨x.toArray⟩] w' fun e j=>e=.returned (.bool (vQ x))/\Below w'.heap.size w' j:=fun x i w' hb=>Gg x (by have:=h x i;omega) w' (g.below (by subst d;exact hb))
def TH(S:List Nd)(root:Int)(x:Nd)(w:World)(X:acO)(A:acN)(n c:Nat)(r:acN)(l c1:Nat)(t:acN)(q c2:Nat)(v:acN)(g m:Nat)(y:acN)(j K:Nat)(a6:tV w X A n S)(Z:Row w X 1 r l (uF x.aliases))(a0:yJ w X t q x.fields)(a1:Row w X 1 v g (uF x.symbols))(a2:Row w X 1 y j (yI x.rR))(dr:g<=m)(ds:j<=K)(dK:l<=100000000)(dM:q<=100000000)(dN:g<=100000000)(e0:j<=100000000)(dI:n<=100000000)(U:∀b,X b->b<w.heap.size)(cx:vE w)(aU:MG x)(cz:x.kind=13->∀k∈x.rR,0<=k/\k<(n:Int)):Calls Tryz.prog 63 #[.agg #[.slice A n c,.int .i64 root],nA x r l c1 t q c2 v g m y j K] w fun e w'=>e=.returned (.bool (uZ S x))/\Below w.heap.size w w':=by
 have d2:x.aliases.length=l:=by have:=Z.len;exact cN
 have d3:=a0.len;have ci:x.symbols.length=g:=by have:=a1.len;exact cN
 have d4:x.rR.length=j:=by have:=a2.len;exact eJ
 have bz:=fun w'=>P5 x r l c1 t q c2 v g m y j K w' d2 d3 ci d4
 have dd:=rq ci;clear d2 d3 ci d4;obtain⟨R,a⟩:∃R,R=uZ S x:=⟨_,rfl⟩;rw[<-a];unfold uZ at a;obtain⟨O,bk⟩:∃C,C=D8 x:=⟨_,rfl⟩;obtain⟨e8,bn⟩:∃C,C=kindOk S x:=⟨_,rfl⟩;rw[<-bk,<-bn]at a;unfold D8 at bk;unfold kindOk at bn;have HR:=rq a;have L:=rq bk;have T:=rq bn;have cp:=rq cz;have tm:=((acQ w).al rT (sC A n c root)).al bi (nC x r l c1 t q c2 v g m y j K);have d5:((w.alloc (sC A n c root)).alloc (nC x r l c1 t q c2 v g m y j K)).cell? ⟨w.heap.size,0,none⟩=some (.slice A n c):=bf;have d6:((w.alloc (sC A n c root)).alloc (nC x r l c1 t q c2 v g m y j K)).cell? ⟨w.heap.size,1,none⟩=some (.int .i64 root):=bf;have cr:=wY.new (w.alloc (sC A n c root)) x r l c1 t q c2 v g m y j K (w.heap.size+1) bi;have ef:((w.alloc (sC A n c root)).alloc (nC x r l c1 t q c2 v g m y j K)).heap.size=w.heap.size+2:=bi;clear a bk bn cz;go_enter Tryz.func63,Tryz.ntmps63;go_upto_region 1 with fail;generalize(w.alloc (sC A n c root)).alloc (nC x r l c1 t q c2 v g m y j K)=w1 at*;have bv:=cr;obtain⟨⟨z,B,D,E,b4,b5,b6,F,G,H⟩,I⟩:=cr;by_cases ea:x.kind<1
 ·obtain rfl:R=false:=by rw[HR.out,rF V];rfl
  clear HR L T bz bv;exact bL
 by_cases eb:14<x.kind
 ·obtain rfl:R=false:=by rw[HR.out,rF (p:=x.kind<=14) V];simp
  clear HR L T bz bv;exact bL
 have a:=HR.out;rw[rP (by omega:1<=x.kind),rP (by omega:x.kind<=14),Bool.and_self,rU]at a;have b9:=rq a;clear a HR;go_wp2_with fail;refine(bz w1).mono ?_;rintro e' N ⟨rfl,af⟩;have c7:=wY.below bv af V;have d8:=(af.cell (p:=⟨w.heap.size,0,none⟩) bd).trans d5;have d9:=(af.cell (p:=⟨w.heap.size,1,none⟩) bd).trans d6;have AZ:=tm.sV V af;have eg:=af.size;clear z B D E b4 b5 b6 F G H I d5 d6 bz bv;cases bO:Ce x with
 |false=>
  obtain rfl:R=false:=by rw[b9.out,bO];rfl
  clear b9 L T bO;exact bR
 |true=>
  have a:=b9.out;rw[bO,rU]at a;have HR:=rq a;clear a b9 bO;go_upto_region 3 with fail;go_cut [38] (fun e6 cl=>e6=.bool (!O)/\Below N.heap.size N cl);case
   first
    =>
     obtain⟨⟨z,B,D,E,b4,b5,b6,F,G,H⟩,I⟩:=c7;have b2:=cx.below AZ;have cS:=ve x.kind N;have cc:=Gg x.name (by have:=aU.name;omega) N b2;have cf:=fun w3(hb:Below N.heap.size N w3)=>DI x.name w3 (b2.below hb)
     have cb:=fun w3(hb:Below N.heap.size N w3)=>OB 46 (enters_of U0 bg rfl) vQ x.aliases w3 X r l c1 (Row.below Z (AZ.sV V hb) U) (fun b h=>by have:=U b h;have:=hb.size;omega) dK (GV (b2.below hb) rfl x.aliases aU.alias)
     clear a6 Z a0 a1 a2 T cp aU cx b2;go_wp2_with fail;refine cS.mono ?_;rintro e' w3 ⟨rfl,rfl⟩;clear cS;cases bs:sf x.kind with
     |false=>
      have i:O=true:=by rw[L.out,bs];rfl
      have E3:=rq i;clear i L bs cc cf cb;go_wp2_with fail;go_meet;exact⟨jt,Below.refl _ _⟩
     |true=>
      have o:=L.out;rw[bs,tl,tU]at o;have b3:=rq o;clear o L bs;go_wp2_with fail;refine cc.mono ?_;rintro e' w3 ⟨rfl,vX⟩;have df:=wY.below ⟨⟨z,B,D,E,b4,b5,b6,F,G,H⟩,I⟩ vX V;have ch:=cf w3 vX;have bx:=cb w3 vX;have XL:=AZ.sV V vX;clear z B D E b4 b5 b6 F G H I cc cf cb;obtain⟨⟨z,B,D,E,b4,b5,b6,F,G,H⟩,I⟩:=df;cases br:vQ x.name with
      |false=>
       have i:O=false:=by rw[b3.out,br];rfl
       have E3:=rq i;clear b3 HR br i ch bx;go_wp2_with fail;go_meet;exact⟨jt,vX⟩
      |true=>
       have o:=b3.out;rw[br,rU]at o;have b7:=rq o;clear o b3 br;go_wp2_with fail;refine ch.mono ?_;rintro e' aa ⟨rfl,rfl⟩;clear ch;by_cases a7:wg x.name=0
       ·have o:=b7.out;rw[rP a7,rU]at o;have b8:=rq o;have d1:((wg x.name:Nat):Int)=0:=V;rw[d1];clear o b7 a7 d1;go_wp2_with fail;refine bx.mono ?_;rintro e' aa ⟨rfl,cy⟩;clear bx;cases bj:Ie vQ x.aliases with
        |false=>
         have i:O=false:=by rw[b8.out,bj]
         have E3:=rq i;clear b8 HR bj i;go_wp2_with fail;go_meet;exact⟨jt,vX.sV V cy⟩
        |true=>
         have i:O=true:=by rw[b8.out,bj]
         have E3:=rq i;clear i b8 bj;go_wp2_with fail;go_meet;exact⟨jt,vX.sV V cy⟩
       ·have i:O=false:=by rw[b7.out,rF a7];rfl
        have E3:=rq i;have ek:(((wg x.name:Nat):Int)==0)=false:=by simpa using a7
        have el:(((wg x.name:Nat):Int) !=0)=true:=by simpa using a7
        clear b7 HR i bx a7;go_wp2_with fail;go_meet;exact⟨jt,vX⟩
  case
   rest=>
    obtain⟨rfl,W⟩:=hcut;cases O with
    |false=>obtain rfl:R=false:=dh;clear HR L T;go_wp2_with fail;go_ret;exact⟨rfl,AZ.sV V W⟩
    |true=>
     simp only[tl];have a:=HR.out;rw[rU,T.out]at a;clear HR L T;have cs:=wY.below c7 W V;have u0:=(W.cell (p:=⟨w.heap.size,0,none⟩) bd).trans d8;have em:=(W.cell (p:=⟨w.heap.size,1,none⟩) bd).trans d9;have NA:=AZ.sV V W;have ad:∀b,X b->b<wc.heap.size:=fun b hb=>by have:=U b hb;have:=W.size;omega
     have e1:w.heap.size+1<wc.heap.size:=by have:=W.size;omega
     clear d8 d9 c7;have c9:=cs;obtain⟨⟨z,B,D,E,b4,b5,b6,F,G,H⟩,I⟩:=cs;by_cases M:x.kind=9;·rw[rv M]at a;have e5:(x.kind==9)=true:=tB.2 M;have AD:=Nt x.fields aU.fields wc X t q c2 (a0.below NA U) ad dM;rw[<-a]at AD;clear a M a6 Z a0 a1 a2;exact mX
     have e5:(x.kind==9)=false:=rr.2 M;rw[ru M]at a;by_cases Y:x.kind=10
     ·rw[rv Y]at a;have e2:(x.kind==10)=true:=tB.2 Y;unfold II at a;rw[dd.out]at a;have cj:=Row.below a1 NA U;obtain⟨b0,c8⟩:∃b0,b0=x.symbols.contains x.sO:=⟨_,rfl⟩;obtain⟨b1,bp⟩:∃b1,b1=(decide (x.has=x.symbols.contains x.sO)&&(x.has||decide (x.sO=[]))):=⟨_,rfl⟩;rw[<-bp]at a;rw[<-c8]at bp;have HR:=rq a;have a3:=rq bp;have c5:=rq c8;clear a bp c8 M Y a6 Z a0 a2 a1;have c4:=fun aa(hb:Below wc.heap.size wc aa)=>AR 129 (enters_of Gp bg rfl) wa x.symbols aa X v g m (Row.below cj hb ad) (fun b h=>by have:=ad b h;exact dE) dN dr (Dz x.symbols aU.symbols)
      go_upto_region 9 with fail;go_cut [65] (fun e7 cl=>e7=.bool (!b1)/\Below wc.heap.size wc cl);case
       first
        =>
         refine su [0,1,2,3,4,5,6,7,8,9,10,11,12,13,14,15,16,17] [6] bg bg (by simp) bg (fun _ _ d _ _ h=>by cases d<;>exact h) (fun wd c3 sW=> ?_);have di:=c9.below c3 e1;have d7:=Row.below cj c3 ad;have an:=yc (c:=m) x.sO wd d7 V;rw[<-c5.out]at an;have ak:=c3;have ei:w.heap.size+1<wd.heap.size:=V;clear c3 sW c9 z B D E b4 b5 b6 F G H I cj d7 c5 c4 HR;obtain⟨⟨z,B,D,E,b4,b5,b6,F,G,H⟩,I⟩:=di;have dB:(RowKit.Hid (x.has=true)/\wd.cell? ⟨w.heap.size+1,5,none⟩=some (.bool true))\/(RowKit.Hid (x.has=false)/\wd.cell? ⟨w.heap.size+1,5,none⟩=some (.bool false)):=by
          cases h:x.has with
          |true=>rw[h]at b5;exact .inl ⟨rq rfl,b5⟩
          |false=>rw[h]at b5;exact .inr ⟨rq rfl,b5⟩
         clear b5;rcases dB with⟨a4,b5⟩|⟨a4,b5⟩
         ·refine aB ?_;refine sB rfl rfl (w.heap.size+2) V (fun dj ac=> ?_);go_wp2_with fail;refine an.mono ?_;rintro e' aa ⟨rfl,rfl⟩;go_wp2_with fail;refine ac _ _ vK ?_;clear ac an;cases b0;·refine aB ?_;refine sn ?_;go_wp2_with fail;go_meet;exact⟨by rw[a3.out,a4.out];rfl,ak⟩
          ·refine aB ?_;refine sn ?_;go_wp2_with fail;go_meet;exact⟨by rw[a3.out,a4.out];rfl,ak⟩
         ·have dz:(RowKit.Hid (x.sO=[])/\wd.cell? ⟨w.heap.size+1,6,none⟩=some (.string ⟨#[]⟩))\/(∃c s,RowKit.Hid (x.sO=c::s)/\wd.cell? ⟨w.heap.size+1,6,none⟩=some (.string ⟨(c::s).toArray⟩)):=by
           cases h:x.sO with
           |nil=>rw[h]at b6;exact .inl ⟨rq rfl,b6⟩
           |cons c s=>rw[h]at b6;exact .inr ⟨c,s,rq rfl,b6⟩
          refine aB ?_;refine sB rfl rfl (w.heap.size+2) V (fun dj ac=> ?_);go_wp2_with fail;refine an.mono ?_;rintro e' aa ⟨rfl,rfl⟩;go_wp2_with fail;refine ac _ _ vK ?_;clear ac an;cases b0
          ·rcases dz with⟨c6,b6⟩|⟨e9,s,c6,b6⟩;·refine aB ?_;refine sn ?_;go_wp2_with fail;go_meet;exact⟨by rw[a3.out,a4.out,c6.out];rfl,ak⟩
           ·refine aB ?_;refine sn ?_;go_wp2_with fail;go_meet;exact⟨by rw[a3.out,a4.out,c6.out];rfl,ak⟩
          ·refine aB ?_;refine sn ?_;go_wp2_with fail;go_meet;exact⟨by rw[a3.out,a4.out];rfl,ak⟩
      case
       rest=>
        obtain⟨rfl,vX⟩:=hcut;clear z B D E b4 b5 b6 F G H I c5 a3;have XL:=NA.sV V vX;cases b1 with
        |false=>obtain rfl:R=false:=dh;clear HR c4;exact iY
        |true=>
         simp only[tl];have ar:=c4 _ vX;obtain⟨⟨z,B,D,E,b4,b5,b6,F,G,H⟩,I⟩:=c9.below vX V;have a:=HR.out;rw[rU]at a;have a5:=rq a;clear a HR c4;by_cases ab:1<=g
         ·by_cases be:g<=40;·have ct:(1:Int)<=(g:Int):=V;have dk:(g:Int)<=40:=V;have a:=a5.out;rw[rP ab,rP be,rU,rU]at a;rw[<-a]at ar;clear a a5 ab be;go_wp2_with fail;refine ar.mono ?_;rintro e' en ⟨rfl,dp⟩;clear ar;go_wp2_with fail;go_ret;exact⟨rfl,XL.sV V dp⟩
          ·have ct:(1:Int)<=(g:Int):=V;have dk:¬(g:Int)<=40:=V;obtain rfl:R=false:=by rw[a5.out,rF be];simp
           clear a5 ar ab be;exact iY
         ·have ct:¬(1:Int)<=(g:Int):=V;obtain rfl:R=false:=by rw[a5.out,rF ab];simp
          clear a5 ar ab;exact iY
     have e2:(x.kind==10)=false:=rr.2 Y;rw[ru Y]at a;by_cases a9:x.kind=14
     ·rw[rv a9]at a;have e4:(x.kind==14)=true:=tB.2 a9;have HR:=rq a;clear a M Y a9 a6 Z a0 a1 a2;by_cases d0:0<=x.size
      ·obtain rfl:R=decide (x.size<=1000):=by rw[HR.out,rP d0];rfl
       clear HR;exact iZ
      ·obtain rfl:R=false:=by rw[HR.out,rF d0];rfl
       clear HR;exact iZ
     have e4:(x.kind==14)=false:=rr.2 a9;rw[ru a9]at a;by_cases a8:x.kind=13;·rw[rv a8]at a;have e3:(x.kind==13)=true:=tB.2 a8;have AD:=Rq S x.rR root wc X A n c y j K (a6.below NA U) (Row.below a2 NA U) ad dI e0 ds (cp.out a8);rw[<-a]at AD;clear a M Y a9 a8 a6 Z a0 a1 a2;exact mX
     ·rw[ru a8]at a;subst a;have e3:(x.kind==13)=false:=rr.2 a8;exact iZ
def MJ(a:Nat->List Int->Int×List Int):List Fd->Int->List Int->Int×List Int
 | [],n,kn=>(n,kn)
 |f::b,n,kn=>MJ a b (min (n+(a f.type.toNat kn).1) 1001) (a f.type.toNat kn).2
def U9(x:Nd):List Fd:=if x.kind=9 then x.fields else []
def Gb(S:List Nd):Nat->Nat->List Int->Int×List Int
 |0,_,kn=>(0,kn)
 |f+1,a,kn=>
 match kn[a]?,S[a]? with
 |some v,some x=>if v<0 then(1001,kn)else if 0<v then(v,kn)else((MJ (Gb S f) (U9 x) 1 (kn.set a (-1))).1,(MJ (Gb S f) (U9 x) 1 (kn.set a (-1))).2.set a (MJ (Gb S f) (U9 x) 1 (kn.set a (-1))).1)
 |_,_=>(0,kn)
def RW(kn:List Int):Prop:=∀v∈kn, -1<=v/\v<=1001
def Jj(kn:List Int):Nat:=kn.count 0
structure Xq(kn:List Int)(r:Int×List Int):Prop where
 RI:RW r.2
 len:r.2.length=kn.length
 Jj:Jj r.2<=Jj kn
 lo:0<=r.1
 hi:r.1<=1001
section
variable{w w':World}{g b B:Nat}(S:List Nd)(root:Int){kn:List Int}{a:Nat}{v:Int}
def RW.set(h:RW kn)(a:Nat){v:Int}(d: -1<=v)(e:v<=1001):RW (kn.set a v):=by
 intro u b;rcases List.mem_or_eq_of_mem_set b with b|rfl;·exact h u b
 ·exact⟨d,e⟩
def WI(b:v≠0):Jj (kn.set a v)<=Jj kn:=by
 unfold Jj;by_cases h:a<kn.length;·rw[List.count_set h];have:(v==0)=false:=rr.2 b;rw[this];simp
 ·rw[List.set_eq_of_length_le V];exact iW
def MC(h:kn[a]? =some 0):Jj (kn.set a (-1))<Jj kn:=by obtain⟨b,d⟩:=rK.1 h;unfold Jj;rw[List.count_set b,d];have:0<kn.count 0:=List.count_pos_iff.2 (d▸rY b);simp;omega
def UQ{b:Nat->List Int->Int×List Int}(j:∀a kn,RW kn->Xq kn (b a kn)):∀(d:List Fd)(n:Int)(kn:List Int),RW kn->1<=n->n<=1001->Xq kn (MJ b d n kn)/\1<=(MJ b d n kn).1
 | [],n,kn,e,g,i=>⟨⟨e,rfl,rN _,by simp only[MJ];omega,i⟩,g⟩
 |f::d,n,kn,e,g,i=>by have h:=j f.type.toNat kn e;have:=h.lo;have:=h.hi;obtain⟨r,k⟩:=UQ j d (min (n+(b f.type.toNat kn).1) 1001) (b f.type.toNat kn).2 h.RI V V;exact⟨⟨r.RI,r.len.trans h.len,sG r.Jj h.Jj,r.lo,r.hi⟩,k⟩
def UR:∀(f a:Nat)(kn:List Int),RW kn->Xq kn (Gb S f a kn):=by
 intro f;induction f with
 |zero=>intro a kn b;exact⟨b,rfl,rN _,by simp[Gb],by simp[Gb]⟩
 |succ f g=>
  intro a kn b;unfold Gb;split
  ·rename_i v x d i;split;·exact⟨b,rfl,rN _,bi,bi⟩
   ·split;·exact⟨b,rfl,rN _,bd,(b v (rL d)).2⟩
    ·have e:v=0:=V;subst e;obtain⟨r,j⟩:=UQ (fun a kn b=>g a kn b) (U9 x) 1 (kn.set a (-1)) (b.set a V V) V V;have:=MC d;refine⟨r.RI.set a V r.hi,by simp only[sT];rw[r.len,sT],?_,bd,r.hi⟩;have:=WI (kn:=(MJ (Gb S f) (U9 x) 1 (kn.set a (-1))).2) (a:=a) (v:=(MJ (Gb S f) (U9 x) 1 (kn.set a (-1))).1) V;have:=r.Jj;exact bd
  ·exact⟨b,rfl,rN _,bi,bi⟩
def Ov(w:World)(g:Nat)(kn:List Int):Prop:=∀i v,kn[i]? =some v->w.cell? ⟨g,i,none⟩=some (.int .i64 v)/\w.frozen? ⟨g,i,none⟩=false
def Ov.off(h:Ov w g kn)(hb:rS b B w w')(a:g<B)(d:g≠b):Ov w' g kn:=fun i v e=>⟨(hb.cell a d).trans (h i v e).1,(hb.frozen a d).trans (h i v e).2⟩
def Ov.below(h:Ov w g kn)(hb:Below B w w')(a:g<B):Ov w' g kn:=fun i v b=>⟨(hb.cell a).trans (h i v b).1,(hb.frozen a).trans (h i v b).2⟩
def Ov.set(h:Ov w g kn){a:Nat}(d:a<kn.length)(v:Int):Ov (w.setCell ⟨g,a,none⟩ (.int .i64 v)) g (kn.set a v):=by
 intro i u b;rw[yj];rw[yG]at b;split at b;·rename_i e;subst e;(try rw[rv d]at b);injection b with b;subst b;have:=h a kn[a] (ry d);exact gF
 ·rename_i e;have:=h i u b;exact fP
def HZ(g:Nat)(A:acN)(n c:Nat)(X:acO)(ff:n<=100000000)(e1:∀x∈S,x.kind=9->∀f∈x.fields,0<=f.type/\f.type<(n:Int)):∀(f a:Nat)(kn:List Int)(w:World),Jj kn<f->RW kn->kn.length=n->a<n->tV w X A n S->Ov w g kn->g<w.heap.size->(∀b,X b->b<w.heap.size/\b≠g)->Calls Tryz.prog 64 #[.agg #[.slice A n c,.int .i64 root],.int .i64 (a:Int),.slice (some ⟨g,0,none⟩) n n] w fun e w'=>e=.returned (.int .i64 (Gb S f a kn).1)/\Ov w' g (Gb S f a kn).2/\rS g w.heap.size w w':=by
 intro f;induction f with
 |zero=>intro a kn w h;omega
 |succ f eg=>
  intro a kn w e8 F b0 O b1 aU ar hX;have ct:=rq b1.len;have b9:=rq b0;obtain⟨v,Q⟩:∃v,kn[a]? =some v:=⟨_,ry (by rw[b0];exact O)⟩;obtain⟨x,b4⟩:∃x,S[a]? =some x:=⟨_,ry (by rw[ct.out];exact O)⟩;obtain⟨R,D⟩:∃R,R=Gb S (f+1) a kn:=⟨_,rfl⟩;rw[<-D];simp only[Gb,Q,b4]at D;have HR:=rq D;have g1:=F v (rL Q);have f6:(a:Int)<(n:Int):=V;obtain⟨c0,fz⟩:=aU a v Q;have tm:=(acQ w).al rT (sC A n c root);have ek:(w.alloc (sC A n c root)).cell? ⟨w.heap.size,0,none⟩=some (.slice A n c):=bf;have el:(w.alloc (sC A n c root)).cell? ⟨w.heap.size,1,none⟩=some (.int .i64 root):=bf;have e7:w.heap.size<(w.alloc (sC A n c root)).heap.size:=bi;have c1:=(tm.cell (p:=⟨g,a,none⟩) ar).trans c0;have ds:=(tm.frozen (p:=⟨g,a,none⟩) ar).trans fz;have XR:=aU.below tm ar;have c9:=b1.below tm (fun b hb=>(hX b hb).1);have bk:=rq Q;have bn:=rq b4;clear D c0 fz Q b0 b4 aU b1;go_enter Tryz.func64,Tryz.ntmps64;go_upto_region 1 with fail;generalize w.alloc (sC A n c root)=w1 at*;by_cases a2:v<0
  ·obtain rfl:R=(1001,kn):=by rw[HR.out,rv a2]
   exact kD
  by_cases ad:0<v
  ·obtain rfl:R=(v,kn):=by rw[HR.out,ru a2,rv ad]
   exact kD
  obtain rfl:v=0:=V;have D:=HR.out;rw[ru a2,ru ad]at D;have a0:=rq D;have eb:=MC bk.out;clear D HR;go_upto_region 6 with fail;have c8:¬w.heap.size=g:=V;have fj:¬g=w.heap.size:=V;have u0:(w1.setCell ⟨g,a,none⟩ (.int .i64 (-1))).cell? ⟨w.heap.size,0,none⟩=some (.slice A n c):=bf;have en:(w1.setCell ⟨g,a,none⟩ (.int .i64 (-1))).cell? ⟨w.heap.size,1,none⟩=some (.int .i64 root):=bf;have br:=XR.set (by rw[b9.out];exact O) (-1);have e9:=(rS.of tm:rS g w.heap.size w w1).setAt a (.int .i64 (-1));have cf:w.heap.size<(w1.setCell ⟨g,a,none⟩ (.int .i64 (-1))).heap.size:=by simpa using e7
  have cb:=c9.off ((rS.refl g w1.heap.size w1).setAt a (.int .i64 (-1))) (fun b hb=>bl);have bO:=F.set a (v:= -1) V V;clear ek el c1 ds XR c9 tm a2 ad F;generalize w1.setCell ⟨g,a,none⟩ (.int .i64 (-1))=b7 at*;have c7:(kn.set a (-1)).length=n:=by rw[sT];exact b9.out
  have be:=rq c7;have ci:Jj (kn.set a (-1))<f:=V;have bp:=rq ci;clear c7 ci eb e8;obtain⟨a6,c4⟩:∃a6,a6=kn.set a (-1):=⟨_,rfl⟩;rw[<-c4]at br bO a0 be bp;clear c4 bk;obtain⟨ab,af⟩:∃ab,ab=MJ (Gb S f) (U9 x) 1 a6:=⟨_,rfl⟩;rw[<-af]at a0;have bj:=rq af;clear af;obtain⟨q,p,x',es,g2,c1,et,Y,c2,f0,g3,f2,f1,g4,f3,rfl,H,b5,⟨d9,dd,a1,f4,df,di,dj,dk,dp,dr⟩,⟨_,cl,_,_⟩,_,_,fi,_,_⟩:=uW cb O;obtain rfl:x=x':=by rw[bn.out]at b5;injection b5
  have e2:x.kind=9->∀f∈x.fields,0<=f.type/\f.type<(n:Int):=e1 x (rL bn.out);have b8:=rq cl.len;have fl:=hX q H;clear dd a1 df di dj dk dp dr b5;have y:∀b,X b->b<b7.heap.size/\b≠g:=fun b hb=>bl
  go_wp2_with fail;go_loopw [7,36] (fun em b6 wr=>∃(j:Nat)(m:Int)(l:List Int),b6=.int .i64 j/\j<=Y/\em=.int .i64 m/\1<=m/\m<=1001/\RowKit.Hid (MJ (Gb S f) (if x.kind=9 then x.fields.drop j else []) m l=ab)/\Ov wr g l/\RW l/\l.length=n/\Jj l<f/\rS g b7.heap.size b7 wr) (fun _ b6 _=>Y-(intOf b6).toNat);case atStart=>exact⟨0,1,a6,rfl,rO _,rfl,V,V,by rw[yM];exact bj.out.symm,br,bO,be.out,bp.out,rS.refl _ _ _⟩
  case
   round=>
    obtain⟨j,m,l,rfl,f8,rfl,f9,fb,I,N,F,c6,cj,z⟩:=hrel;have Z:=rq c6;have a9:=rq cj;have fn:=z.size;have cp:=(z.cell (p:=⟨w.heap.size,0,none⟩) cf c8).trans u0;have cr:=(z.cell (p:=⟨w.heap.size,1,none⟩) cf c8).trans en;have cc:=cb.off z y;have ef:=e9.trans (z.mono (B':=w.heap.size) V);clear c6 cj;by_cases c3:j<Y
    ·have e0:(j:Int)<(Y:Int):=V;have a5:j<x.fields.length:=by rw[b8.out];exact c3
     have bv:=(z.cell (p:=⟨q,p+a*10,none⟩) (y q H).1 (y q H).2).trans d9;obtain⟨bx,g5,o,K,U,M,k,i,t,B,W,d,B',T,L,rfl,dI,an,⟨d1,d2,ac,d3,d4,d5,d6,d7,d8⟩,_,_,_,_⟩:=yY (cl.keep (w':=wr) (fun q H=>z.cell (y _ H).1 (y _ H).2) (fun _ h=>h)) c3;have ak:x.fields[j]=o:=by rw[ry a5]at an;injection an
     have e4:o∈x.fields:=ak▸rY a5;have E:=(acQ wr).al rT (fC o K U M k i t B W d B' T L);have cs:=A8.new wr o K U M k i t B W d B' T L wr.heap.size rfl;have fm:wr.heap.size<(wr.alloc (fC o K U M k i t B W d B' T L)).heap.size:=bi;have e5:q<wr.heap.size:=by have:=(y q H).1;omega
     have b3:w.heap.size<wr.heap.size:=V;have dK:g<wr.heap.size:=V;have f7:bx<wr.heap.size:=by have:=(y bx dI).1;omega
     have dB:RowKit.Hid (x.fields.drop j=o::x.fields.drop (j+1)):=by rw[rH a5,ak];exact rfl
     have g6:=(E.cell (p:=⟨w.heap.size,0,none⟩) b3).trans cp;have g7:=(E.cell (p:=⟨w.heap.size,1,none⟩) b3).trans cr;have f5:=(E.cell (p:=⟨q,p+a*10,none⟩) e5).trans bv;have bs:=N.below E dK;have e6:=cc.below E (fun b hb=>by have:=(y b hb).1;omega);have dz:∀b,X b->b<(wr.alloc (fC o K U M k i t B W d B' T L)).heap.size/\b≠g:=fun b hb=>by have:=y b hb;omega
     clear an ak cp cr bv N cc a5;go_upto_region 10 with fail;generalize wr.alloc (fC o K U M k i t B W d B' T L)=er at*;clear d1 d2 ac d3 d4 d5 d6 d7 d8;by_cases C:x.kind=9
     ·have ei:(x.kind==9)=true:=tB.2 C;obtain⟨fs,g0⟩:=e2 C o e4;have r:=I.out;rw[rv C,dB.out,MJ]at r;obtain⟨ty,b2⟩:∃ty:Nat,o.type=(ty:Int):=⟨o.type.toNat,V⟩;obtain⟨P,a3⟩:∃P,P=Gb S f ty l:=⟨_,rfl⟩;have G:=UR S f ty l F;rw[b2,rW,<-a3]at r;rw[<-a3]at G;have a4:=eg ty l er a9.out F Z.out V e6 bs V dz;rw[<-a3]at a4;have c5:P.2.length=n:=G.len.trans Z.out;have ch:Jj P.2<f:=tQ G.Jj a9.out;have dN:=G.RI;have e3:=G.lo;have dM:=G.hi;have a8:=rq r;have a7:=rq C;have cx:=rq c5;have cy:=rq ch;obtain⟨_,_,ac,_⟩:=cs;rw[b2]at ac;clear r a3 G b2 C c5 ch I;obtain⟨aa,d0⟩:=P;simp only at a4 e3 dM;have b3:wrap64 (m+aa)=m+aa:=tG V V;go_wp2_with fail;refine a4.mono ?_;rintro e' g8 ⟨rfl,cz,ea⟩;clear a4;go_wp2_with fail;refine⟨⟨j+1,min (m+aa) 1001,d0,bi,V,?_,V,V,by rw[rv a7.out];exact a8.out,cz,dN,cx.out,cy.out,(z.trans (rS.of (E.mono V))).trans (ea.mono V)⟩,?_⟩;·rfl
      ·exact bK
     ·have ei:(x.kind==9)=false:=rr.2 C;have r:=I.out;rw[ru C]at r;have a8:=rq r;have a7:=rq C;clear r C I;go_wp2_with fail;refine⟨⟨j+1,m,l,bi,V,rfl,V,V,by rw[ru a7.out];exact a8.out,bs,F,Z.out,a9.out,z.trans (rS.of (E.mono V))⟩,?_⟩;exact bK
    ·obtain rfl:j=Y:=V;have e0:¬(j:Int)<(j:Int):=V;have r:=I.out;have a1:(if x.kind=9 then x.fields.drop j else [])=[]:=by rw[th (by rw[b8.out];omega)];split<;>rfl
     rw[a1,MJ]at r;subst r;obtain rfl:R=(m,l.set a m):=a0.out;have bz:a<l.length:=by rw[Z.out];exact O
     have cS:=N.set bz m;obtain⟨g9,gb⟩:=N a l[a] (ry bz);clear a0 I a1 bj N;generalize l[a]=gc at*;go_wp2_with fail;go_ret;exact⟨rfl,cS,ef.setAt a _⟩
end
