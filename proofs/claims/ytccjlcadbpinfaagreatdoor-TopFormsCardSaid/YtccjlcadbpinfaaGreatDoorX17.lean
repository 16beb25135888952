import Derived.Test.YtccjlcadbpinfaaGreatDoorX12
import Derived.Lib.AppendStr
import Derived.Lib.Builder
set_option linter.all false
set_option maxRecDepth 100000
set_option maxHeartbeats 16000000
namespace Go.Proofs.YtccjlcadbpinfaaGreatDoor.Tp
open ChangeShapes WideShapes ChangeAt RowKit
open Num Mem Can
def M1(A:acN)(n c:Nat)(w:World):Calls Tryz.prog 200 #[.slice A n c] w fun e w'=>e=.returned (.func (.func 229) #[] #[.pointer (some ⟨w.heap.size,0,none⟩)])/\w'.cell? ⟨w.heap.size,0,none⟩=some (.slice A n c)/\w'.heap.size=w.heap.size+1/\acP w w':=by go_enter Tryz.func200,Tryz.ntmps200;go_wp2_with fail;go_ret;exact⟨rfl,bf,bi,vK.al rT _⟩
def KL(v:Value)(H:Nat)(zs:List acM)(w:World)(h:w.ownsRow H 9 1 v zs.length (zs.map sv))(D:zs.length<=100000000):Calls Tryz.prog 202 #[v] w fun e w'=>(∃A c,e=.returned (.slice A (Lib.compact zs).length c))/\Below H w w':=by
 rcases h.2 with⟨rfl,r⟩|⟨d,cap,z,rfl,C,j,E,F,G,y⟩;·have t:zs=[]:=rI r;subst t;refine(Tryz.slices_Compact_string_empty none 0 w).mono ?_;rintro e' w' ⟨rfl,rfl⟩;exact⟨⟨none,0,rfl⟩,Below.refl _ _⟩
 ·have m:Go.Sort.Holds encStr w d 0 zs.toArray:=holds_of_block j (by rw[SP];simpa using y);have o:H<=w.heap.size:=by have:=(uh.1 j).1;omega
  refine(Tryz.slices_Compact_string d 0 cap zs w m V V).mono ?_;rintro e' w' ⟨rfl,q,rfl⟩;refine⟨⟨_,cap,rfl⟩,?_⟩;have i:=grownBy_sorted (w:=w) (g:=d) (n:=q) (os:= #[]) (Lib.compact zs++List.replicate (zs.length-(Lib.compact zs).length) []).toArray;rw[Go.Sort.grow_empty]at i;exact vK.grown i o (fun k l=>by injection l with l;omega)
def BR:J->Bool
 | .mk k _ _ l ks=>if k=6 then decide (ks.length=l.length)&&decide ((Lib.compact (x9 ks)).length=ks.length)&& !(ks.any fun x=> !yB x)else decide (ks.length=0)
def EU(zs:List acM):(x9 zs).length=zs.length:=by simp[x9]
def QN(k i:Int)(text:acM)(items:List J)(keys:List acM)(aa:∀x∈keys,x.length<=100000000)(w:World)(X:acO)(A:acN)(n c:Nat)(A':acN)(n' c':Nat)(ab:items.length=n)(hr:Row w X 1 A' n' (uF keys))(hX:∀b,X b->b<w.heap.size)(b5:n<=100000000)(M:n'<=100000000):Calls Tryz.prog 155 #[jA k i ⟨text.toArray⟩ A n c A' n' c'] w fun e w'=>e=.returned (.bool (BR (.mk k i text items keys)))/\acP w w':=by
 have L:keys.length=n':=mQ;obtain⟨R,q⟩:∃R,R=BR (.mk k i text items keys):=⟨_,rfl⟩;rw[<-q];unfold BR at q;simp only[ab,L]at q;have m:=rq q;clear q;have tm:=(acQ w).al rT (jC k i ⟨text.toArray⟩ A n c A' n' c');have F:=vC.new w k i ⟨text.toArray⟩ A n c A' n' c' w.heap.size rfl;have b8:w.heap.size<(w.alloc (jC k i ⟨text.toArray⟩ A n c A' n' c')).heap.size:=bi;have N:=yD hr tm hX;go_enter Tryz.func155,Tryz.ntmps155;go_upto_region 1 with fail;generalize w.alloc (jC k i ⟨text.toArray⟩ A n c A' n' c')=w1 at*;have a7:=F;obtain⟨⟨G,H,I,b3,b4⟩,K⟩:=a7;by_cases o:k=6
 ·have h:=m.out;rw[rv o]at h;have z:=rq h;subst o;clear h m;go_wp2_with fail;refine(M1 A' n' c' w1).mono ?_;rintro e' E ⟨rfl,a3,b9,r⟩;have a5:=rq L;clear L;go_wp2_with fail;refine(MY w1.heap.size A' n' c' keys X M E V a3 (yD N r (fun b hb=>bl)) (fun b hb=>bl)).mono ?_;rintro e' bk ⟨v,rfl,a1,b7,t⟩;have ak:=t.size;have O:=(F.below r V).below t V;have Z:=yD (yD N r (fun b hb=>bl)) t (fun b hb=>bl);have yq:=(tm.trans (r.mono V)).trans (t.mono V);clear G H I b3 b4 K F N r t a3;go_upto_region 5 with fail;refine su [0,1,2,3,4,5,6,7,8,11,12,13,9,10,14,15,16,17,18,19,20,21,22,23] [9,20] bg bg bi bg (fun _ _ d _ _ h=>bw) (fun wd j sW=> ?_);have a6:=O.below j V;have a0:=yD Z j (fun b hb=>bl);have Bj:=yq.trans (j.mono V);have a2:wd.ownsRow E.heap.size 9 1 v keys.length ((x9 keys).map sv):=World.ownsRow.kept a1 (row:=none) ⟨j.os,j.tape,j.output,j.size,fun k a9 _=>j.block k a9⟩ (by first|(simp;exact Classical.em _)|simp);have bj:E.heap.size<=wd.heap.size:=V;clear j sW O Z yq a1 ak;obtain⟨⟨G,H,I,b3,b4⟩,K⟩:=a6;by_cases Y:n'=n
  ·subst Y;have h:=z.out;simp only[xK,rU]at h;have C:=rq h;clear h z;refine aw ?_;refine sB rfl rfl (w.heap.size+1) V (fun D g=> ?_);go_wp2_with fail;refine(KL v E.heap.size (x9 keys) wd (by rw[EU];exact a2) (by rw[EU,a5.out];exact M)).mono ?_;rintro e' ar ⟨⟨aU,c2,rfl⟩,l⟩;go_wp2_with fail;refine g _ _ (l.mono V) ?_;clear g;have be:=l.size;have d3:=(l.cell (p:=⟨w.heap.size,3,none⟩) bd).trans b3;have d4:=(l.cell (p:=⟨w.heap.size,4,none⟩) bd).trans b4;have af:=yD a0 l (fun b hb=>bl);have yq:=Bj.trans (l.mono V);clear G H I b3 b4 K a0 Bj a2 l;generalize(Lib.compact (x9 keys)).length=y at*;by_cases W:y=n';·subst W;have h:=C.out;simp only[xK,rU]at h;have a4:=rq h;clear h C;refine ax ?_;refine sB rfl rfl (w.heap.size+1) V (fun D g=> ?_);have U:=zb 201 (enters_of Tryz.func201 bg rfl) #[] (fun x=> !yB x) keys ar X A' y c' af (fun b hb=>bl) M (fun x an w' _=>Kz x (aa x an) w');generalize(keys.any fun x=> !yB x)=b0 at*;go_wp2_with fail;refine U.mono ?_;rintro e' bn ⟨rfl,T⟩;go_wp2_with fail;refine g _ _ (T.mono V) ?_;clear g U;have a8:=yq.trans (T.mono V);refine ay ?_;refine sn ?_;go_wp2_with fail;go_ret;exact⟨by rw[a4.out];rfl,a8⟩
   ·have ac:((y:Int)==(n':Int))=false:=rr.2 V;have ad:¬(y:Int)=(n':Int):=V;obtain rfl:R=false:=by rw[C.out];simp[W]
    clear C;refine ax ?_;refine sB rfl rfl (w.heap.size+1) V (fun D g=> ?_);go_wp2_with fail;refine g _ _ vK ?_;clear g;refine ay ?_;refine sn ?_;exact jh
  ·have ac:((n':Int)==(n:Int))=false:=rr.2 V;have ad:¬(n':Int)=(n:Int):=V;obtain rfl:R=false:=by rw[z.out];simp[Y]
   clear z;refine aw ?_;refine sB rfl rfl (w.heap.size+1) V (fun D g=> ?_);go_wp2_with fail;refine g _ _ vK ?_;clear g;refine aw ?_;refine sB rfl rfl (w.heap.size+1) V (fun D g=> ?_);go_wp2_with fail;refine g _ _ vK ?_;clear g;refine aw ?_;refine sn ?_;exact bt
 ·have h:=m.out;rw[ru o]at h;have b2:(k==6)=false:=rr.2 o;have b1:decide (k=6)=false:=by simp[o]
  by_cases S:n'=0
  ·subst S;obtain rfl:R=true:=by rw[h];rfl
   clear h m;exact bL
  ·have b6:((n':Int)==0)=false:=rr.2 V;obtain rfl:R=false:=by rw[h];simp[S]
   clear h m;exact bL
inductive tE:J->Prop
 |mk {k i:Int} {t:acM} {l:List J} {ks:List acM} (ht:t.length<=100000000) (hk:∀x∈ks,x.length<=100000000) (hi:∀x∈l,tE x):tE (.mk k i t l ks)
mutual
def tT:J->Nat->Bool
 | .mk k i t l ks,d=>Ab (.mk k i t l ks)&&BR (.mk k i t l ks)&& !(decide (32<=d)&&(decide (k=5)||decide (k=6)))&&CJ l (d+1)
def CJ:List J->Nat->Bool
 | [],_=>true
 |x::r,d=>tT x d&&CJ r d
end
def BV(l:List J)(d:Nat):CJ l d= !(l.any fun x=> !tT x d):=by
 induction l with
 |nil=>rfl
 |cons x r e=>simp only[CJ,List.any_cons];rw[e];cases tT x d<;>simp
def MT(f:Nat)(a1:∀args w,(callFunc f args).run Tryz.prog w=.ok (.enter f args) w)(lb:Array Value)(p:J->Bool)(l:List J)(w:World)(X:acO)(A:acN)(n c:Nat){css:List (List Value)}(hr:Row w X 5 A n css)(U:css.length=l.length)(S:∀(i:Nat)(h:i<css.length)(a2:i<l.length),uf w X css[i] l[i])(L:∀b,X b->b<w.heap.size)(a4:n<=100000000)(N:∀x∈l,∀(k i:Int)(t:ByteArray)(m:acN)(r c1:Nat)(o:acN)(v c2:Nat)(w':World),uf w' X (jv k i t m r c1 o v c2) x->acP w w'->Calls Tryz.prog f (#[jA k i t m r c1 o v c2]++lb) w' fun e a0=>e=.returned (.bool (p x))/\acP w' a0):Calls Tryz.prog 203 #[.slice A n c,.func (.func f) #[] lb] w fun e w'=>e=.returned (.int .i64 (xz p l))/\acP w w':=by
 have M:l.length=n:=cM;obtain⟨R,y⟩:∃R,R=xz p l:=⟨_,rfl⟩;rw[<-y];have E:=rq (y.trans (zT p l).symm);have HL:=rq M;clear y M;go_enter Tryz.func203,Tryz.ntmps203;go_wp2_with fail;go_loopw [8] (fun D wr=>∃j:Nat,D=.int .i64 j/\j<=n/\R=EI p j (l.drop j)/\acP w wr) (fun D _=>n-(intOf D).toNat);case atStart=>exact⟨0,rfl,rO _,E.out,Below.refl _ _⟩
 case
  round=>
   obtain⟨j,rfl,a3,hk,vu⟩:=hrel;have HK:=rq hk;clear hk E;by_cases Ar:j<n;·have DZ:j<l.length:=cZ;have Qv:(j:Int)<(n:Int):=V;have z:=rH DZ;obtain⟨g,q,x,Y,W,Z,m,r,c1,o,v,c2,rfl,O,hx,T,F,G,H,I,K⟩:=yZ hr U S Ar;have C:l[j]=x:=cX;have XI:=N x (C▸rY DZ) Y W Z m r c1 o v c2 wr (T.stay vu L) vu;rw[C]at z;have d:=L g O;have a5:=(vu.cell (p:=⟨g,q+j*5,none⟩) d).trans F;have a6:=(vu.cell (p:=⟨g,q+j*5+1,none⟩) d).trans G;have a7:=(vu.cell (p:=⟨g,q+j*5+2,none⟩) d).trans H;have a8:=(vu.cell (p:=⟨g,q+j*5+3,none⟩) d).trans I;have a9:=(vu.cell (p:=⟨g,q+j*5+4,none⟩) d).trans K;have HD:=rq (z▸HK.out);clear z HK DZ F G H I K hx C;exact lB
   ·exact lR
def Dj(f:Nat)(r:∀args w,(callFunc f args).run Tryz.prog w=.ok (.enter f args) w)(lb:Array Value)(p:J->Bool)(l:List J)(w:World)(X:acO)(A:acN)(n c:Nat){css:List (List Value)}(C:Row w X 5 A n css)(y:css.length=l.length)(m:∀(i:Nat)(h:i<css.length)(F:i<l.length),uf w X css[i] l[i])(v:∀b,X b->b<w.heap.size)(z:n<=100000000)(j:∀x∈l,∀(k i:Int)(t:ByteArray)(d:acN)(o c1:Nat)(g:acN)(q c2:Nat)(w':World),uf w' X (jv k i t d o c1 g q c2) x->acP w w'->Calls Tryz.prog f (#[jA k i t d o c1 g q c2]++lb) w' fun e D=>e=.returned (.bool (p x))/\acP w' D):Calls Tryz.prog 156 #[.slice A n c,.func (.func f) #[] lb] w fun e w'=>e=.returned (.bool (l.any p))/\acP w w':=by have h:=MT f r lb p l w X A n c C y m v z j;rw[<-D4];generalize xz p l=E at*;clear j m;go_enter Tryz.func156,Tryz.ntmps156;exact bZ
def M9{k i:Int}{t:acM}{l:List J}{ks:List acM}(h:Ab (.mk k i t l ks)=true)(d:k≠5)(g:k≠6):l=[]:=by
 unfold Ab at h;have e:¬(k=5\/k=6):=fun h=>h.elim d g
 simp only[ru e]at h;apply rI;split at h;·simp at h;rw[h.2];rfl
 ·split at h;·simp at h;rw[h.2];rfl
  ·split at h;·simp at h;rw[h.2];rfl
   ·split at h;·simp at h;rw[h.1.2];rfl
    ·cases h
def OA(N:Nat):Prop:=∀(j:J)(d:Nat),SizeOf.sizeOf j<=N->tE j->d<=100->∀(w:World)(X:acO)(k i:Int)(t:ByteArray)(A:acN)(n c:Nat)(A':acN)(n' c':Nat),uf w X (jv k i t A n c A' n' c') j->(∀b,X b->b<w.heap.size)->Calls Tryz.prog 107 #[jA k i t A n c A' n' c',.int .i64 (d:Int)] w fun e w'=>e=.returned (.bool (tT j d))/\acP w w'
def Mc(N:Nat)(r:OA N)(j:J)(d:Nat)(y:SizeOf.sizeOf j<=N)(z:tE j)(v:d+1<=100)(g:Nat)(w:World)(o:w.cell? ⟨g,0,none⟩=some (.int .i64 (d:Int)))(q:g<w.heap.size)(X:acO)(k i:Int)(t:ByteArray)(A:acN)(n c:Nat)(A':acN)(n' c':Nat)(h:uf w X (jv k i t A n c A' n' c') j)(hX:∀b,X b->b<w.heap.size):Calls Tryz.prog 157 #[jA k i t A n c A' n' c',.pointer (some ⟨g,0,none⟩)] w fun e w'=>e=.returned (.bool (!tT j (d+1)))/\acP w w':=by have tm:=(acQ w).al rT (jC k i t A n c A' n' c');have m:=vC.new w k i t A n c A' n' c' w.heap.size rfl;have I:=(tm.cell (p:=⟨g,0,none⟩) q).trans o;have l:=r j (d+1) y z v _ X k i t A n c A' n' c' (h.stay tm hX) (fun b hb=>ey);rw[show((d+1:Nat):Int)=(d:Int)+1 from V]at l;have K:w.heap.size<(w.alloc (jC k i t A n c A' n' c')).heap.size:=bi;generalize tT j (d+1)=R at*;go_enter Tryz.func157,Tryz.ntmps157;go_upto_region 1 with fail;generalize w.alloc (jC k i t A n c A' n' c')=w1 at*;obtain⟨⟨C,D,E,F,G⟩,H⟩:=m;have HIH:=rq l;clear l;exact mY
def Q5:∀N,OA N:=by
 intro N;induction N with
 |zero=>intro j d T;cases j;simp at T
 |succ N ar=>
  intro j d T b9 bj w X k i t A n c A' n' c' h hX;cases h with
  |mk hr ak D U bk bn S b7=>
   rename_i text items keys css;obtain⟨Y,b8,af⟩:text.length<=100000000/\(∀x∈keys,x.length<=100000000)/\∀x∈items,tE x:=by
    cases b9 with
    |mk Y U D=>exact⟨Y,U,D⟩
   simp only[J.mk.sizeOf_spec]at T;have ad:items.length=n:=cM;obtain⟨R,z⟩:∃R,R=tT (.mk k i text items keys) d:=⟨_,rfl⟩;rw[<-z];unfold tT at z;have hb:=Ss k i text items keys Y;have an:=QN k i text items keys b8;have ab:=fun h=>M9 (k:=k) (i:=i) (t:=text) (l:=items) (ks:=keys) h
   generalize Ab (.mk k i text items keys)=b0 at*;have b1:=rq ab;clear ab;generalize BR (.mk k i text items keys)=b4 at*;have a6:=rq hb;have I:=rq an;have HR:=rq z;clear hb an z;have b6:=((acQ w).al rT (jC k i ⟨text.toArray⟩ A n c A' n' c')).alloc bi (.cells #[.int .i64 (d:Int)] 3);have K:=(vC.new w k i ⟨text.toArray⟩ A n c A' n' c' w.heap.size rfl).below (vK.alloc rT (.cells #[.int .i64 (d:Int)] 3)) bi;have a8:((w.alloc (jC k i ⟨text.toArray⟩ A n c A' n' c')).alloc (.cells #[.int .i64 (d:Int)] 3)).cell? ⟨w.heap.size+1,0,none⟩=some (.int .i64 (d:Int)):=bf;have bp:w.heap.size+1<((w.alloc (jC k i ⟨text.toArray⟩ A n c A' n' c')).alloc (.cells #[.int .i64 (d:Int)] 3)).heap.size:=bi;go_enter Tryz.func107,Tryz.ntmps107;go_upto_region 1 with fail;generalize(w.alloc (jC k i ⟨text.toArray⟩ A n c A' n' c')).alloc (.cells #[.int .i64 (d:Int)] 3)=w1 at*;have O:=K;obtain⟨⟨g,m,o,r,v⟩,y⟩:=O;go_wp2_with fail;refine(a6.out w1 A n c A' n' c' ad).mono ?_;rintro e' be ⟨rfl,e⟩;have br:=e.size;have L:=K.below e V;have a9:=(e.cell (p:=⟨w.heap.size+1,0,none⟩) bd).trans a8;have a0:=b6.sV V e;clear g m o r v y K a8 a6 e;have O:=L;obtain⟨⟨g,m,o,r,v⟩,y⟩:=O;cases b0;·obtain rfl:R=false:=dh;clear HR I;go_wp2_with fail;go_ret;exact⟨rfl,a0⟩
   ·go_wp2_with fail;refine(I.out be X A n c A' n' c' ad (yD U a0 hX) (fun b hb=>bl) S b7).mono ?_;rintro e' aU ⟨rfl,C⟩;have bs:=C.size;have b3:=L.below C V;have aa:=(C.cell (p:=⟨w.heap.size+1,0,none⟩) bd).trans a9;have U6:=a0.sV V C;clear g m o r v y L a9 I;obtain⟨⟨g,m,o,r,v⟩,y⟩:=b3;cases b4;·obtain rfl:R=false:=dh;clear HR;go_wp2_with fail;go_ret;exact⟨rfl,U6⟩
    ·by_cases a7:32<=d
     ·have b5:(32:Int)<=(d:Int):=V;have hdd:decide (32<=d)=true:=by simp[a7]
      by_cases E:k=5;·subst E;exact gU
      ·by_cases F:k=6;·subst F;exact gU
       ·have bv:(k==5)=false:=rr.2 E;have bx:(k==6)=false:=rr.2 F;have tS:R=CJ items (d+1):=by rw[HR.out];simp[E,F]
        have ac:=b1.out ng E F;have b2:=rq ac;clear HR ac;have hcf:=Dj 157 (enters_of Tryz.func157 bg rfl) #[.pointer (some ⟨w.heap.size+1,0,none⟩)] (fun x=> !tT x (d+1)) items aU X A n c (hr.keep (fun q W=>U6.cell (hX _ W)) (fun _ h=>h)) ak (fun j h M=>(D j h M).stay U6 hX) (fun b hb=>bl) S (fun x hx a2 a1 a5 G a3 c1 H a4 c2 w' Z KG=>Mc N ar x d fv (af x hx) (absurd hx (by rw[b2.out];simp)) (w.heap.size+1) w' ((KG.cell (p:=⟨w.heap.size+1,0,none⟩) bd).trans aa) cY X a2 a1 a5 G a3 c1 H a4 c2 Z (fun b hb=>oD));exact mj
     ·have b5:¬(32:Int)<=(d:Int):=V;have tS:R=CJ items (d+1):=by rw[HR.out];simp[a7]
      clear HR;have hcf:=Dj 157 (enters_of Tryz.func157 bg rfl) #[.pointer (some ⟨w.heap.size+1,0,none⟩)] (fun x=> !tT x (d+1)) items aU X A n c (hr.keep (fun q W=>U6.cell (hX _ W)) (fun _ h=>h)) ak (fun j h M=>(D j h M).stay U6 hX) (fun b hb=>bl) S (fun x hx a2 a1 a5 G a3 c1 H a4 c2 w' Z KG=>Mc N ar x d fv (af x hx) V (w.heap.size+1) w' ((KG.cell (p:=⟨w.heap.size+1,0,none⟩) bd).trans aa) cY X a2 a1 a5 G a3 c1 H a4 c2 Z (fun b hb=>oD));exact mj
def CT(j:J)(l:tE j)(w:World)(X:acO)(k i:Int)(t:ByteArray)(A:acN)(n c:Nat)(A':acN)(n' c':Nat)(h:uf w X (jv k i t A n c A' n' c') j)(hX:∀b,X b->b<w.heap.size):Calls Tryz.prog 54 #[jA k i t A n c A' n' c'] w fun e w'=>e=.returned (.bool (tT j 0))/\acP w w':=by have tm:=(acQ w).al rT (jC k i t A n c A' n' c');have z:w.heap.size<(w.alloc (jC k i t A n c A' n' c')).heap.size:=bi;have g:=vC.new w k i t A n c A' n' c' w.heap.size rfl;have d:=Q5 _ j 0 rT l V (w.alloc (jC k i t A n c A' n' c')) X k i t A n c A' n' c' (h.stay tm hX) (fun b hb=>bl);rw[show((0:Nat):Int)=0 from rfl]at d;generalize tT j 0=R at*;have HIH:=rq d;clear d;go_enter Tryz.func54,Tryz.ntmps54;go_upto_region 1 with fail;generalize w.alloc (jC k i t A n c A' n' c')=w1 at*;obtain⟨⟨m,o,q,r,v⟩,y⟩:=g;exact mY
def Hy(l:acM):Lib.strCells ⟨l.toArray⟩=cells l:=by simp[Lib.strCells,cells,bc]
def Mg{e n c:Nat}{A:acN}{xs l:acM}{w:World}(ty:TypeId)(D2:Mem.Own w e A n c xs)(q:n+l.length<=140737488355328)(Dm:e<=w.heap.size):∃d c2 w',(Builtin.append_ #[22,9] ty #[.slice A n c,.string ⟨l.toArray⟩]).run Tryz.prog w=.ok (.slice d (n+l.length) c2) w'/\Mem.Own w' e d (n+l.length) c2 (xs++l)/\Below e w w'/\KD A w w':=by obtain⟨y,j,r,t,v⟩:=xj zU;obtain⟨z,w',o,h2,h3,C⟩:=Lib.run_append_own_string (P:=Tryz.prog) (w:=w) e 22 9 ty 5 y sZ zh j r t v (.slice A n c) n (cells xs) D2 ⟨l.toArray⟩ (by rw[uJ];exact de) (by rw[uJ];exact q) Dm;rw[uJ,Hy]at h2;have i:∃d c2,z=.slice d (n+l.length) c2:=cH;obtain⟨d,c2,rfl⟩:=i;refine⟨d,c2,w',o,by unfold Mem.Own;exact kN,?_,⟨h3.size,fun k hk m=>h3.block k hk (fun g=>m (by cases A with|none=>simp[Value.ownBlock]at g|some ad=>simp only[Value.ownBlock,sb]at g;simp[g]))⟩⟩;exact bQ
section
variable{ops:Array Oper}{Q:Exit->Act->World->Prop}{rest:List Oper}{a:Act}{w:World}
def Ft{e:Option Tmp}{s x:Operand}{ty:TypeId}{j:String}{g:Array Edge}{i:Option (Nat×Bool)}(q:Region.wanted ⟨e,.call {callee:=.builtin .append,args:= #[s,x],argTypes:= #[22,9]},ty,j,g,i⟩ (yielded ops a.tmps)=true){d n c:Nat}{A:acN}{xs l:acM}(hs:a.eval s=.slice A n c)(m:Mem.Own w d A n c xs)(hx:a.eval x=.string ⟨l.toArray⟩)(o:n+l.length<=140737488355328)(k:d<=w.heap.size)(h:∀A2 c2 w',Mem.Own w' d A2 (n+l.length) c2 (xs++l)->Below d w w'->KD A w w'->wpList Tryz.prog ops Q rest (a.put e (.slice A2 (n+l.length) c2)) w'):wpList Tryz.prog ops Q (⟨e,.call {callee:=.builtin .append,args:= #[s,x],argTypes:= #[22,9]},ty,j,g,i⟩::rest) a w:=by
 refine tj q fun K hK=> ?_
 obtain⟨A2,c2,w',Il,h2,h3,h4⟩:=Mg (w:=w) ty m o k;exact cu
end
structure zG(b:Nat)(w w':World):Prop where
 size:w.heap.size<=w'.heap.size
 block:∀k,k<w.heap.size->k≠b->(∀cur fz,w.heap[k]?≠some (.cells cur 5 fz))->w'.heap[k]? =w.heap[k]?
section
variable{b i n c:Nat}{w w':World}
def zG.refl(b:Nat)(w:World):zG b w w:=⟨rN _,fun _ _ _ _=>rfl⟩
def zG.trans{i:World}(h:zG b w w')(k:zG b w' i):zG b w i:=⟨sG h.size k.size,fun j d hb g=>by have e:=h.block j d hb g;rw[k.block j (sj d h.size) hb (by rw[e];exact g),e]⟩
def zG.off(h:rS b w.heap.size w w'):zG b w w':=⟨h.size,fun k d hb _=>h.block k d hb⟩
def zG.below(h:acP w w'):zG b w w':=⟨h.size,fun k d _ _=>h.block k d⟩
def zG.El{A:acN}{xs:acM}{w w':World}(o:Mem.Own w i A n c xs)(h:KD A w w'):zG b w w':=⟨h.1,fun k l _ m=>
 h.2 k l fun e=>
  by
   rcases o.2 with⟨d,_⟩|⟨g,cap,q,d,_,j,_⟩;·injection d with d;rw[d]at e;simp at e
   ·injection d with d;rw[d]at e;simp only[uj,sb]at e;subst e;exact m _ _ j⟩
def zG.cell(h:zG b w w'){p:Addr}(g:p.block<w.heap.size)(hb:p.block≠b)(e:∀d fz,w.heap[p.block]?≠some (.cells d 5 fz)):w'.cell? p=w.cell? p:=rD (w:=w) (h.block p.block g hb e)
def Ba(w:World)(b:Nat)(p A:acN)(n c:Nat)(over:Bool):Prop:=w.heap[b]? =some (.cells #[.pointer p,.slice A n c,.bool over] 140 (0,0))
end
section
variable{w w':World}{b n c B x:Nat}{p A:acN}{over:Bool}
def Ba.lt(h:Ba w b p A n c over):b<w.heap.size:=(uh.1 h).1
def Ba.c0(h:Ba w b p A n c over):w.cell? ⟨b,0,none⟩=some (.pointer p):=ou
def Ba.c1(h:Ba w b p A n c over):w.cell? ⟨b,1,none⟩=some (.slice A n c):=ou
def Ba.c2(h:Ba w b p A n c over):w.cell? ⟨b,2,none⟩=some (.bool over):=ou
def Ba.fz(h:Ba w b p A n c over)(j:Nat):w.frozen? ⟨b,j,none⟩=false:=by unfold Ba at h;simp[World.frozen?,h]
def Ba.sh(h:Ba w b p A n c over):w.shape? b=some (140,3):=by unfold Ba at h;simp[World.shape?,h]
def Ba.s0(h:Ba w b p A n c over)(q:acN):Ba (w.setCell ⟨b,0,none⟩ (.pointer q)) b q A n c over:=gu
def Ba.s1(h:Ba w b p A n c over)(d:acN)(e c2:Nat):Ba (w.setCell ⟨b,1,none⟩ (.slice d e c2)) b p d e c2 over:=gu
def Ba.s2(h:Ba w b p A n c over)(d:Bool):Ba (w.setCell ⟨b,2,none⟩ (.bool d)) b p A n c d:=gu
def Ba.below(h:Ba w b p A n c over)(hb:Below B w w')(d:b<B):Ba w' b p A n c over:=(hb.block b d).trans h
def Ba.off(h:Ba w b p A n c over)(hb:rS x B w w')(d:b<B)(e:b≠x):Ba w' b p A n c over:=(hb.block b d e).trans h
end
def LL:(Tryz.prog.info? 138).map (fun i=>(i.size))=some 2:=bg
def Tw:liesAt Tryz.prog Tryz.prog.depth 140 (3/Tryz.prog.cellsOf 140) 0 138 1=true:=bg
def Ij(b:Nat)(A:acN)(n c:Nat)(over:Bool)(w:World)(h:Ba w b none A n c over):Calls Tryz.prog 219 #[.pointer (some ⟨b,0,none⟩)] w fun e w'=>e=.returned (.tuple #[])/\w'=w.setCell ⟨b,0,none⟩ (.pointer (some ⟨b,0,none⟩)):=by obtain⟨j,d,i⟩:=vP.1 LL;have k:=h.c0;have l:=h.fz 0;have g:=h.sh;go_enter Tryz.func219,Tryz.ntmps219;go_wp2;rw[Lib.run_to_unsafe w ⟨b,0,none⟩ M0 Tryz.underlying294 d (by rw[i];decide) g (Nat.zero_lt_succ 2)];simp only[Result.andThen];rw[Oper.upon_value];go_wp2;rw[run_callFunc_extern Tryz.func237 bg bg bg (e:=Extern.AbiNoEscape.same) bg];rw[Lib.run_noEscape];simp only[Result.andThen];rw[Oper.upon_value];go_wp2;rw[Lib.run_from_unsafe w ⟨b,0,none⟩ Tryz.underlying294 M0 d g Tw];simp only[Result.andThen];rw[Oper.upon_value];go_wp2;go_end0;exact bH
def GM(b:Nat)(A:acN)(n c:Nat)(over:Bool)(w:World)(h:Ba w b (some ⟨b,0,none⟩) A n c over):Calls Tryz.prog 219 #[.pointer (some ⟨b,0,none⟩)] w fun e w'=>e=.returned (.tuple #[])/\w'=w:=by obtain⟨j,d,i⟩:=vP.1 LL;have g:=h.c0;go_enter Tryz.func219,Tryz.ntmps219;go_wp2;rw[Lib.run_neq_ptr_same w _ M0 d];go_wp2;go_end0;exact bH
def Ii(b:Nat)(p A:acN)(n c:Nat)(over:Bool)(w:World)(h:Ba w b p A n c over)(d:p=none\/p=some ⟨b,0,none⟩):Calls Tryz.prog 219 #[.pointer (some ⟨b,0,none⟩)] w fun e w'=>e=.returned (.tuple #[])/\Ba w' b (some ⟨b,0,none⟩) A n c over/\rS b w.heap.size w w':=by
 rcases d with rfl|rfl;·refine(Ij b A n c over w h).mono ?_;rintro e w' ⟨rfl,rfl⟩;exact⟨rfl,h.s0 _,(rS.refl _ _ _).setAt _ _⟩
 ·refine(GM b A n c over w h).mono ?_;rintro e w' ⟨rfl,rfl⟩;exact⟨rfl,h,rS.refl _ _ _⟩
def Ow(b:Nat)(p A:acN)(n c:Nat)(over:Bool)(w:World)(h:Ba w b p A n c over):Calls Tryz.prog 173 #[.pointer (some ⟨b,0,none⟩)] w fun e w'=>e=.returned (.int .i64 (n:Int))/\w=w':=by have d:=h.c1;go_enter Tryz.func173,Tryz.ntmps173;exact bE
def Fy(b:Nat)(p A:acN)(n c d:Nat)(over:Bool)(xs l:acM)(w:World)(h:Ba w b p A n c over)(D:p=none\/p=some ⟨b,0,none⟩)(o:Mem.Own w d A n c xs)(hb:b<d)(v:d<=w.heap.size)(H:n+l.length<=100000000):Calls Tryz.prog 174 #[.pointer (some ⟨b,0,none⟩),.string ⟨l.toArray⟩] w fun e w'=>e=.returned (.tuple #[.int .i64 (l.length:Int),.nilIface])/\∃k c2,Ba w' b (some ⟨b,0,none⟩) k (n+l.length) c2 over/\Mem.Own w' d k (n+l.length) c2 (xs++l)/\rS b d w w'/\zG b w w':=by go_enter Tryz.func174,Tryz.ntmps174;go_wp2_with fail;refine(Ii b p A n c over w h D).mono ?_;rintro e' K ⟨rfl,i,g⟩;have q:=o.off g hb;have I:=g.size;have C:=g.mono v;have E:=zG.off g;have c0:=i.c0;have c1:=i.c1;have fz:=i.fz 1;clear h o g;go_wp2_with((at_builtin;refine Ft rfl rfl q rfl V V ?_);intro r t L z m y;have j:=i.below m V;have F:=j.c1;have G:=j.fz 1);go_ret2;exact⟨by simp[uJ],r,t,j.s1 _ _ _,z.off ((rS.refl b _ _).setAt 1 _) hb,(C.trans (rS.of m)).setAt 1 _,(E.trans (zG.El q y)).trans (zG.off ((rS.refl b _ _).setAt 1 _))⟩
