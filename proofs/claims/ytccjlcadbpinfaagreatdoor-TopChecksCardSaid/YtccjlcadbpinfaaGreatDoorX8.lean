import Derived.Test.YtccjlcadbpinfaaGreatDoorX7
set_option linter.all false
set_option maxRecDepth 100000
set_option maxHeartbeats 16000000
namespace Go.Proofs.YtccjlcadbpinfaaGreatDoor.Tp
open ChangeShapes WideShapes ChangeAt RowKit
open Num Mem Can
def W2{a b:List afs}(h:Ef a=Ef b):a=b:=by
 have:∀(a b:List afs),Ef a=Ef b->a=b:=by
  intro a;induction a with
  |nil=>intro b h;cases b with|nil=>rfl|cons y b=>simp[Ef]at h
  |cons x a e=>
   intro b h;cases b with
   |nil=>simp[Ef]at h
   |cons y b=>
    simp only[Ef,xB,List.cons.injEq,ByteArray.mk.injEq]at h;have d:x=y:=by simpa using CF Array.toList h.1
    rw[d,e b h.2]
 exact this a b h
def QL{X Y:afu}{A A':aft}{n c n' c':Nat}{ks a:List afs}(w:World)(h:Row w X 1 A n (uL ks))(e:Row w Y 1 A' n' (uL a))(r:n<=1000000000)(t:n'<=1000000000):Calls Tryz.prog 38 #[.slice A n c,.slice A' n' c'] w (vh w (.bool (decide (ks=a)))):=by
 have hl:ks.length=n:=oy;have d:a.length=n':=by have:=e.len;exact db
 by_cases j:n=0
 ·subst j;have:ks=[]:=rT hl;subst this;refine(Tryz.slices_Equal_string_empty A A' c n' c' w V).mono fun _ _ h=>⟨?_,h.2▸Below.refl _ _⟩
  rw[h.1];congr 2;cases a<;>simp_all<;>omega
 ·obtain⟨b,off,rfl,l⟩:=GF h V;by_cases k:n'=0
  ·subst k;have:a=[]:=rT d;subst this;have i:(decide (ks=[]))=false:=by cases ks<;>simp_all
   rw[i];have p:Calls Tryz.prog 38 #[.slice (some ⟨b,off,none⟩) n c,.slice A' 0 c'] w (vh w (.bool false)):=by have v:((n:Int)==0)=false:=rA.2 V;go_enter Tryz.func38,Tryz.ntmps38;exact fa
   exact p
  ·obtain⟨g,Cm,rfl,m⟩:=GF e V;refine(Tryz.slices_Equal_string b off n c g Cm n' c' (Ef ks) (Ef a) w jE (by simp[Ef,d]) V V l m).mono fun _ _ h=>⟨?_,?_⟩
   ·rw[h.1,yo jE,yo (by simp[Ef,d])];congr 2;rw[zK];exact⟨W2,fun h=>by rw[h]⟩
   ·obtain⟨q,o⟩:=h.2;rw[o];exact xn.drewN q
mutual
def BV:J->J->Bool
 | .mk k i t l ks,.mk b a e l' d=>decide (k=b)&&decide (i=a)&&decide (t=e)&&decide (ks=d)&&BU l l'
def BU:List J->List J->Bool
 | [],[]=>true
 |x::r,y::s=>BV x y&&BU r s
 |_,_=>false
end
def Ty(N:Nat):Prop:=∀(a b:J),SizeOf.sizeOf a<=N->∀(w:World)(X:afu)(k i:Int)(t:ByteArray)(A:aft)(n c:Nat)(A':aft)(n' c':Nat)(h g:Int)(l:ByteArray)(B:aft)(m d:Nat)(B':aft)(j e:Nat),uq w X (jv k i t A n c A' n' c') a->uq w X (jv h g l B m d B' j e) b->(∀b,X b->b<w.heap.size)->Calls Tryz.prog 39 #[jA k i t A n c A' n' c',jA h g l B m d B' j e] w (vh w (.bool (BV a b)))
def Nz(N:Nat)(b8:Ty N)(w:World)(X:afu){A B:aft}{n c m d:Nat}{o q:List (List Value)}{l l':List J}(bz:∀x∈l,SizeOf.sizeOf x<=N)(hr:Row w X 5 A n o)(br:o.length=l.length)(bj:∀(i:Nat)(h:i<o.length)(b7:i<l.length),uq w X o[i] l[i])(b1:Row w X 5 B m q)(bs:q.length=l'.length)(bk:∀(i:Nat)(h:i<q.length)(b7:i<l'.length),uq w X q[i] l'[i])(hX:∀b,X b->b<w.heap.size)(cb:n<=100000000)(c9:m<=100000000):Calls Tryz.prog 86 #[.slice A n c,.slice B m d,.func (.func 39) #[] #[]] w (vh w (.bool (BU l l'))):=by
 have b0:l.length=n:=cn;have bw:l'.length=m:=by have:=b1.len;omega
 have bv:∀(a b:List J),a.length≠b.length->BU a b=false:=by
  intro a;induction a with
  |nil=>intro b h;cases b with|nil=>exact absurd rfl h|cons y b=>rfl
  |cons x a bO=>intro b h;cases b with|nil=>rfl|cons y b=>simp only[BU,bO b eK,JT]
 obtain⟨R,H⟩:=sW (BU l l');rw[<-H];have a1:=rz H;clear H;by_cases bx:n=m
 ·subst bx;go_enter Tryz.func86,Tryz.ntmps86;go_wp2_with fail;go_loopw [17] (fun Y wr=>∃(j:Nat),Y=.int .i64 j/\j<=n/\R=BU (l.drop j) (l'.drop j)/\afv w wr) (fun Y _=>n-(intOf Y).toNat);case atStart=>exact⟨0,rfl,sb _,a1.out,Below.refl _ _⟩
  case
   round=>
    obtain⟨j,rfl,c7,an,wI⟩:=hrel;have D:=rz an;clear an;by_cases az:j<n
    ·obtain⟨g,p,x,O,L,Z,t,S,c1,v,T,c2,rfl,bd,hx,bn,a7,a8,a9,aa,ab⟩:=zr hr br bj az;obtain⟨ad,cf,y,Q,M,a0,z,U,F,C,W,G,rfl,be,K,bp,a2,a3,a4,a5,a6⟩:=zr b1 bs bk az;have e:=hX g bd;have k:=hX ad be;have ch:=wI.cl a7 e;have ci:=wI.cl a8 e;have cj:=wI.cl a9 e;have ck:=wI.cl aa e;have cp:=wI.cl ab e;have s0:=wI.cl a2 k;have s1:=wI.cl a3 k;have s2:=wI.cl a4 k;have cr:=wI.cl a5 k;have cs:=wI.cl a6 k;have cc:=wI.size;have c5:g<wr.heap.size:=V;have c6:ad<wr.heap.size:=V;have b9:=((afw wr).al rV (jC O L Z t S c1 v T c2)).alloc bA (jC Q M a0 z U F C W G);have r:=wI.sY rV b9;have EK:j<l.length:=V;have ar:j<l'.length:=V;have I:l[j]=x:=gm;have b4:l'[j]=y:=by rw[rD ar]at K;injection K
     have b3:R=(BV x y&&BU (l.drop (j+1)) (l'.drop (j+1))):=by rw[D.out,rM EK,rM ar,I,b4];rfl
     have b2:=b8 x y (bz x (I▸sj EK)) ((wr.alloc (jC O L Z t S c1 v T c2)).alloc (jC Q M a0 z U F C W G)) X O L Z t S c1 v T c2 Q M a0 z U F C W G (bn.stay r hX) (bp.stay r hX) eO;have c8:(j:Int)<(n:Int):=V;have E:=rz b3;clear b3 D a7 a8 a9 aa ab a2 a3 a4 a5 a6 hx K I b4;generalize BV x y=b6 at*;go_wp2_with fail;refine sG b2 fun ct af=> ?_
     have Ac:=r.sY bA af;clear b2 af r;cases b6
     ·obtain rfl:R=false:=by rw[E.out];rfl
      exact cK
     ·have h:=E.out;rw[sk]at h;have b5:=rz h;clear h E;go_wp2_with fail;refine⟨⟨j+1,bA,V,b5.out,Ac⟩,?_⟩;exact bN
    ·have aU:j=n:=V;obtain rfl:R=true:=by rw[D.out,aU,<-b0,zB,b0,<-bw,zB];rfl
     subst aU;exact cJ
 ·obtain rfl:R=false:=by rw[a1.out];exact bv l l' V
  have c3:((n:Int)==(m:Int))=false:=rA.2 V;have c4:¬(n:Int)=(m:Int):=V;go_enter Tryz.func86,Tryz.ntmps86;exact fa
def Tz:∀N,Ty N:=by
 intro N;induction N with
 |zero=>intro a b M;cases a;simp at M
 |succ N bj=>
  intro a b M w X k i t A n c A' n' c' g e c8 B m d B' D r b3 b4 hX;cases b3 with
  |mk be bd b8 b9 bO c3 b7 bz=>
   rename_i text items keys bn;cases b4 with
   |mk b2 b1 aU b0 bs bv az br=>
    rename_i o C T bp;simp only[J.mk.sizeOf_spec]at M;obtain⟨R,I⟩:=sW (BV (.mk k i text items keys) (.mk g e o C T));rw[<-I];have U:=rz (show R=(decide (k=g)&&decide (i=e)&&decide (text=o)&&decide (keys=T)&&BU items C)from I);clear I;have sK:=((afw w).al rV (jC k i ⟨text.toArray⟩ A n c A' n' c')).alloc bA (jC g e ⟨o.toArray⟩ B m d B' D r);have a1:=(vW.new w k i ⟨text.toArray⟩ A n c A' n' c' w.heap.size rfl).below (xn.alloc rV (jC g e ⟨o.toArray⟩ B m d B' D r)) bA;have a2:=vW.new (w.alloc (jC k i ⟨text.toArray⟩ A n c A' n' c')) g e ⟨o.toArray⟩ B m d B' D r (w.heap.size+1) bA;have c4:w.heap.size+1<((w.alloc (jC k i ⟨text.toArray⟩ A n c A' n' c')).alloc (jC g e ⟨o.toArray⟩ B m d B' D r)).heap.size:=bA;go_enter Tryz.func39,Tryz.ntmps39;go_upto_region 1 with fail;generalize(w.alloc _).alloc _=w1 at*;obtain⟨⟨a4,a5,a6,W,a7⟩,a8⟩:=a1;obtain⟨⟨a9,aa,ab,Y,ad⟩,af⟩:=a2;have Q:=QL w1 (yZ b9 sK hX) (yZ b0 sK hX) V V (c:=c') (c':=r);obtain⟨a3,H⟩:=sW (decide (keys=T));rw[<-H]at Q;have K:=U.out;rw[<-H]at K;have v:=rz K;clear H K U;by_cases F:k=g
    ·subst F;by_cases G:i=e
     ·subst G;have L:=v.out;simp only[wF,sk]at L;have y:=rz L;clear L v;by_cases a0:text=o;rotate_left
      ·obtain rfl:R=false:=by rw[y.out];simp[a0]
       exact bL
      ·subst a0;go_wp2_with fail;refine sG Q fun bk z=> ?_
       have c5:=z.size;have p:=sK.sY V z;have c6:=z.cl W V;have c7:=z.cl Y V;clear Q a4 a5 a6 W a7 a8 a9 aa ab Y ad af;cases a3
       ·obtain rfl:R=false:=by rw[y.out];rfl
        go_wp2_with fail;go_ret;exact⟨rfl,p⟩
       ·have Z:R=BU items C:=by rw[y.out];simp
        have O:=Nz N bj bk X (c:=c) (d:=d) (l:=items) (l':=C) (fun x hx=>fM) (be.keep (fun q S=>p.cell (hX _ S)) ug) bd (fun j h E=>(b8 j h E).stay p hX) (b2.keep (fun q S=>p.cell (hX _ S)) ug) b1 (fun j h E=>(aU j h E).stay p hX) bq b7 az;rw[<-Z]at O;clear Z y;go_wp2_with fail;refine sG O fun c9 b5=> ?_
        have b6:=p.sY V b5;clear O;go_wp2_with fail;go_ret;exact⟨rfl,b6⟩
     ·have bx:(i==e)=false:=rA.2 G;have ar:decide (i=e)=false:=by simp[G]
      obtain rfl:R=false:=by rw[v.out,ar];simp
      exact bL
    ·have bw:(k==g)=false:=rA.2 F;have an:decide (k=g)=false:=by simp[F]
     obtain rfl:R=false:=by rw[v.out,an];simp
     exact bL
def NN(A:aft)(n c:Nat)(w:World):Calls Tryz.prog 200 #[.slice A n c] w fun e w'=>e=.returned (.func (.func 229) #[] #[sg w.heap.size])/\w'.cell? (rN w.heap.size 0)=some (.slice A n c)/\w'.heap.size=w.heap.size+1/\afv w w':=by go_enter Tryz.func200,Tryz.ntmps200;go_wp2_with fail;go_ret;exact⟨rfl,bi,bA,xn.al rV _⟩
def LD(v:Value)(H:Nat)(zs:List afs)(w:World)(h:w.ownsRow H 9 1 v zs.length (zs.map sv))(x:zs.length<=100000000):Calls Tryz.prog 202 #[v] w fun e w'=>(∃A c,e=.returned (.slice A (Lib.compact zs).length c))/\Below H w w':=by
 rcases h.2 with⟨rfl,m⟩|⟨a,cap,r,rfl,t,d,y,z,B,p⟩;·have o:zs=[]:=rT m;subst o;refine tZ (Tryz.slices_Compact_string_empty none 0 w) ?_;exact⟨⟨none,0,rfl⟩,Below.refl _ _⟩
 ·have j:Go.Sort.Holds encStr w a 0 zs.toArray:=holds_of_block d (by rw[Uj];simpa using p);have l:H<=w.heap.size:=by have:=(vm.1 d).1;omega
  refine(Tryz.slices_Compact_string a 0 cap zs w j V V).mono ?_;rintro e' w' ⟨rfl,q,rfl⟩;refine⟨⟨_,cap,rfl⟩,?_⟩;have b:=grownBy_sorted (w:=w) (g:=a) (n:=q) (os:= #[]) (Lib.compact zs++List.replicate (zs.length-(Lib.compact zs).length) []).toArray;rw[Go.Sort.grow_empty]at b;exact xn.grown b l (fun k i=>by injection i with i;omega)
def Bp:J->Bool
 | .mk k _ _ l ks=>if k=6 then decide (ks.length=l.length)&&decide ((Lib.compact (yA ks)).length=ks.length)&& !(ks.any fun x=> !yX x)else decide (ks.length=0)
def Fw(zs:List afs):(yA zs).length=zs.length:=by simp[yA]
def RO(k i:Int)(text:afs)(items:List J)(keys:List afs)(a7:∀x∈keys,x.length<=100000000)(w:World)(X:afu)(A:aft)(n c:Nat)(A':aft)(n' c':Nat)(a8:items.length=n)(hr:Row w X 1 A' n' (uL keys))(hX:∀b,X b->b<w.heap.size)(b1:n<=100000000)(I:n'<=100000000):Calls Tryz.prog 155 #[jA k i ⟨text.toArray⟩ A n c A' n' c'] w (vh w (.bool (Bp (.mk k i text items keys)))):=by
 have H:keys.length=n':=nH;obtain⟨R,m⟩:=sW (Bp (.mk k i text items keys));rw[<-m];unfold Bp at m;simp only[a8,H]at m;have j:=rz m;clear m;have sK:=(afw w).al rV (jC k i ⟨text.toArray⟩ A n c A' n' c');have C:=vW.new w k i ⟨text.toArray⟩ A n c A' n' c' w.heap.size rfl;have b6:=sK.l1;have K:=yZ hr sK hX;go_enter Tryz.func155,Tryz.ntmps155;go_upto_region 1 with fail;generalize w.alloc _=w1 at*;have a4:=C;obtain⟨⟨D,E,F,b3,b4⟩,G⟩:=a4;by_cases l:k=6
 ·have h:=j.out;rw[rG l]at h;have t:=rz h;subst l;clear h j;go_wp2_with fail;refine sG (NN A' n' c' w1) fun B ⟨a0,b7,o⟩=> ?_
  have a2:=rz H;clear H;go_wp2_with fail;refine(NK w1.heap.size A' n' c' keys X I B V a0 (yZ K o bq) bq).mono ?_;rintro e' bd ⟨v,rfl,Y,b5,q⟩;have ad:=q.size;have L:=(C.below o V).below q V;have U:=yZ (yZ K o bq) q bq;have ze:=(sK.trans (o.mono V)).trans (q.mono V);clear D E F b3 b4 G C K o q a0;go_upto_region 5 with fail;refine sT [0,1,2,3,4,5,6,7,8,11,12,13,9,10,14,15,16,17,18,19,20,21,22,23] [9,20] bm bm bA bm bt (fun wd e tj=> ?_);have a3:=L.below e V;have W:=yZ U e bq;have Bv:=ze.trans (e.mono V);have Z:wd.ownsRow B.heap.size 9 1 v keys.length ((yA keys).map sv):=World.ownsRow.kept Y (row:=none) ⟨e.os,e.tape,e.output,e.size,fun k a6 _=>e.block k a6⟩ (by first|(simp;exact Classical.em _)|simp);have b9:B.heap.size<=wd.heap.size:=V;clear e tj L U ze Y ad;obtain⟨⟨D,E,F,b3,b4⟩,G⟩:=a3;by_cases T:n'=n
  ·subst T;have h:=t.out;simp only[wF,sk]at h;have y:=rz h;clear h t;refine au ?_;refine tc rfl rfl (w.heap.size+1) V (fun z a=> ?_);go_wp2_with fail;refine(LD v B.heap.size (yA keys) wd (by rw[Fw];exact Z) (by rw[Fw,a2.out];exact I)).mono ?_;rintro e' an ⟨⟨ar,c2,rfl⟩,g⟩;go_wp2_with fail;refine a _ _ (g.mono V) ?_;clear a;have b8:=g.size;have d3:=g.cl b3 V;have d4:=g.cl b4 V;have ab:=yZ W g bq;have ze:=Bv.trans (g.mono V);clear D E F b3 b4 G W Bv Z g;generalize(Lib.compact (yA keys)).length=r at*;by_cases S:r=n'
   ·subst S;have h:=y.out;simp only[wF,sk]at h;have a1:=rz h;clear h y;refine av ?_;refine tc rfl rfl (w.heap.size+1) V (fun z a=> ?_);have O:=Be 201 (enters_of Tryz.func201 bm rfl) #[] (fun x=> !yX x) keys an X A' r c' ab bq I (fun x af w' _=>Ls x (a7 x af) w');generalize(keys.any fun x=> !yX x)=az at*;go_wp2_with fail;refine sG O fun be N=> ?_
    go_wp2_with fail;refine a _ _ (N.mono V) ?_;clear a O;have a5:=ze.trans (N.mono V);refine aw ?_;refine sQ ?_;go_wp2_with fail;go_ret;exact⟨by rw[a1.out];rfl,a5⟩
   ·have a9:((r:Int)==(n':Int))=false:=rA.2 V;have aa:¬(r:Int)=(n':Int):=V;obtain rfl:R=false:=by rw[y.out];simp[S]
    clear y;refine av ?_;refine tc rfl rfl (w.heap.size+1) V (fun z a=> ?_);go_wp2_with fail;refine a _ _ xn ?_;clear a;refine aw ?_;refine sQ ?_;exact jW
  ·have a9:((n':Int)==(n:Int))=false:=rA.2 V;have aa:¬(n':Int)=(n:Int):=V;obtain rfl:R=false:=by rw[t.out];simp[T]
   clear t;refine au ?_;refine tc rfl rfl (w.heap.size+1) V (fun z a=> ?_);go_wp2_with fail;refine a _ _ xn ?_;clear a;refine au ?_;refine tc rfl rfl (w.heap.size+1) V (fun z a=> ?_);go_wp2_with fail;refine a _ _ xn ?_;clear a;refine au ?_;refine sQ ?_;exact bD
 ·have h:=j.out;rw[rB l]at h;have b0:(k==6)=false:=rA.2 l;have aU:decide (k=6)=false:=by simp[l]
  by_cases M:n'=0
  ·subst M;obtain rfl:R=true:=by rw[h];rfl
   clear h j;exact bL
  ·have b2:((n':Int)==0)=false:=rA.2 V;obtain rfl:R=false:=by rw[h];simp[M]
   clear h j;exact bL
inductive tS:J->Prop
 |mk {k i:Int} {t:afs} {l:List J} {ks:List afs} (ht:t.length<=100000000) (hk:∀x∈ks,x.length<=100000000) (hi:∀x∈l,tS x):tS (.mk k i t l ks)
mutual
def ue:J->Nat->Bool
 | .mk k i t l ks,d=>Aa (.mk k i t l ks)&&Bp (.mk k i t l ks)&& !(decide (32<=d)&&(decide (k=5)||decide (k=6)))&&C7 l (d+1)
def C7:List J->Nat->Bool
 | [],_=>true
 |x::r,d=>ue x d&&C7 r d
end
def AI(l:List J)(d:Nat):C7 l d= !(l.any fun x=> !ue x d):=by
 induction l with
 |nil=>rfl
 |cons x r a=>simp only[C7,List.any_cons];rw[a];cases ue x d<;>simp
def NC(f:Nat)(W:∀args w,(callFunc f args).run Tryz.prog w=.ok (.enter f args) w)(lb:Array Value)(p:J->Bool)(l:List J)(w:World)(X:afu)(A:aft)(n c:Nat){m:List (List Value)}(hr:Row w X 5 A n m)(Q:m.length=l.length)(N:∀(i:Nat)(h:i<m.length)(Y:i<l.length),uq w X m[i] l[i])(I:∀b,X b->b<w.heap.size)(a0:n<=100000000)(L:∀x∈l,∀(k i:Int)(t:ByteArray)(d:aft)(o c1:Nat)(e:aft)(r c2:Nat)(w':World),uq w' X (jv k i t d o c1 e r c2) x->afv w w'->Calls Tryz.prog f (#[jA k i t d o c1 e r c2]++lb) w' (vh w' (.bool (p x)))):Calls Tryz.prog 203 #[.slice A n c,.func (.func f) #[] lb] w (vh w (.int .i64 (xa p l))):=by
 have K:l.length=n:=cn;obtain⟨R,v⟩:=sW (xa p l);rw[<-v];have C:=rz (v.trans (Am p l).symm);have HL:=rz K;clear v K;go_enter Tryz.func203,Tryz.ntmps203;go_wp2_with fail;go_loopw [8] (fun B wr=>∃j:Nat,B=.int .i64 j/\j<=n/\R=Fh p j (l.drop j)/\afv w wr) (fun B _=>n-(intOf B).toNat);case atStart=>exact⟨0,rfl,sb _,C.out,Below.refl _ _⟩
 case
  round=>
   obtain⟨j,rfl,Z,hk,wI⟩:=hrel;have HK:=rz hk;clear hk C;by_cases Dx:j<n;·have Fg:j<l.length:=dv;have Rw:(j:Int)<(n:Int):=V;have y:=rM Fg;obtain⟨g,q,x,T,S,U,d,o,c1,e,r,c2,rfl,M,hx,O,D,E,F,G,H⟩:=zr hr Q N Dx;have z:l[j]=x:=du;have ZJ:=L x (z▸sj Fg) T S U d o c1 e r c2 wr (O.stay wI I) wI;rw[z]at y;have a:=I g M;have a1:=wI.cl D a;have a2:=wI.cl E a;have a3:=wI.cl F a;have a4:=wI.cl G a;have a5:=wI.cl H a;have HD:=rz (y▸HK.out);clear y HK Fg D E F G H hx z;exact mc
   ·exact mz
def DA(f:Nat)(m:∀args w,(callFunc f args).run Tryz.prog w=.ok (.enter f args) w)(lb:Array Value)(p:J->Bool)(l:List J)(w:World)(X:afu)(A:aft)(n c:Nat){a:List (List Value)}(z:Row w X 5 A n a)(v:a.length=l.length)(r:∀(i:Nat)(h:i<a.length)(C:i<l.length),uq w X a[i] l[i])(q:∀b,X b->b<w.heap.size)(y:n<=100000000)(o:∀x∈l,∀(k i:Int)(t:ByteArray)(d:aft)(g c1:Nat)(e:aft)(j c2:Nat)(w':World),uq w' X (jv k i t d g c1 e j c2) x->afv w w'->Calls Tryz.prog f (#[jA k i t d g c1 e j c2]++lb) w' (vh w' (.bool (p x)))):Calls Tryz.prog 156 #[.slice A n c,.func (.func f) #[] lb] w (vh w (.bool (l.any p))):=by have h:=NC f m lb p l w X A n c z v r q y o;rw[<-Es];generalize xa p l=B at*;go_enter Tryz.func156,Tryz.ntmps156;exact dF
def NV{k i:Int}{t:afs}{l:List J}{ks:List afs}(h:Aa (.mk k i t l ks)=true)(a:k≠5)(d:k≠6):l=[]:=by
 unfold Aa at h;have b:¬(k=5\/k=6):=fun h=>h.elim a d
 simp only[rB b]at h;apply rT;split at h;·simp at h;rw[h.2];rfl
 ·split at h;·simp at h;rw[h.2];rfl
  ·split at h;·simp at h;rw[h.2];rfl
   ·split at h;·simp at h;rw[h.1.2];rfl
    ·cases h
def PG(N:Nat):Prop:=∀(j:J)(d:Nat),SizeOf.sizeOf j<=N->tS j->d<=100->∀(w:World)(X:afu)(k i:Int)(t:ByteArray)(A:aft)(n c:Nat)(A':aft)(n' c':Nat),uq w X (jv k i t A n c A' n' c') j->(∀b,X b->b<w.heap.size)->Calls Tryz.prog 107 #[jA k i t A n c A' n' c',.int .i64 (d:Int)] w (vh w (.bool (ue j d)))
def MR(N:Nat)(o:PG N)(j:J)(d:Nat)(q:SizeOf.sizeOf j<=N)(r:tS j)(p:d+1<=100)(a:Nat)(w:World)(l:w.cell? (rN a 0)=some (.int .i64 (d:Int)))(m:a<w.heap.size)(X:afu)(k i:Int)(t:ByteArray)(A:aft)(n c:Nat)(A':aft)(n' c':Nat)(h:uq w X (jv k i t A n c A' n' c') j)(hX:∀b,X b->b<w.heap.size):Calls Tryz.prog 157 #[jA k i t A n c A' n' c',sg a] w (vh w (.bool (!ue j (d+1)))):=by have sK:=(afw w).al rV (jC k i t A n c A' n' c');have g:=vW.new w k i t A n c A' n' c' w.heap.size rfl;have D:=sK.cl l m;have e:=o j (d+1) q r p _ X k i t A n c A' n' c' (h.stay sK hX) eO;rw[show((d+1:Nat):Int)=(d:Int)+1 from V]at e;have E:=sK.l1;generalize ue j (d+1)=R at*;go_enter Tryz.func157,Tryz.ntmps157;go_upto_region 1 with fail;generalize w.alloc _=w1 at*;obtain⟨⟨v,x,y,z,B⟩,C⟩:=g;have HIH:=rz e;clear e;exact og
def Sk:∀N,PG N:=by
 intro N;induction N with
 |zero=>intro j d O;cases j;simp at O
 |succ N an=>
  intro j d O b7 bd w X k i t A n c A' n' c' h hX;cases h with
  |mk hr ad B Q be bj M b5=>
   rename_i text items keys b9;obtain⟨T,b6,ab⟩:text.length<=100000000/\(∀x∈keys,x.length<=100000000)/\∀x∈items,tS x:=by
    cases b7 with
    |mk T Q B=>exact⟨T,Q,B⟩
   simp only[J.mk.sizeOf_spec]at O;have aa:items.length=n:=cn;obtain⟨R,y⟩:=sW (ue (.mk k i text items keys) d);rw[<-y];unfold ue at y;have hb:=TO k i text items keys T;have af:=RO k i text items keys b6;have a8:=fun h=>NV (k:=k) (i:=i) (t:=text) (l:=items) (ks:=keys) h
   generalize Aa (.mk k i text items keys)=az at*;have aU:=rz a8;clear a8;generalize Bp (.mk k i text items keys)=b2 at*;have a3:=rz hb;have G:=rz af;have HR:=rz y;clear hb af y;have b4:=((afw w).al rV (jC k i ⟨text.toArray⟩ A n c A' n' c')).alloc bA (.cells #[.int .i64 (d:Int)] 3);have H:=(vW.new w k i ⟨text.toArray⟩ A n c A' n' c' w.heap.size rfl).below (xn.alloc rV (.cells #[.int .i64 (d:Int)] 3)) bA;have a5:((w.alloc (jC k i ⟨text.toArray⟩ A n c A' n' c')).alloc (.cells #[.int .i64 (d:Int)] 3)).cell? (rN (w.heap.size+1) 0)=some (.int .i64 (d:Int)):=bi;have bk:w.heap.size+1<((w.alloc (jC k i ⟨text.toArray⟩ A n c A' n' c')).alloc (.cells #[.int .i64 (d:Int)] 3)).heap.size:=bA;go_enter Tryz.func107,Tryz.ntmps107;go_upto_region 1 with fail;generalize(w.alloc _).alloc _=w1 at*;have L:=H;obtain⟨⟨e,g,m,o,r⟩,v⟩:=L;go_wp2_with fail;refine sG (a3.out w1 A n c A' n' c' aa) fun b8 a=> ?_
   have bn:=a.size;have I:=H.below a V;have a6:=a.cl a5 V;have W:=b4.sY V a;clear e g m o r v H a5 a3 a;have L:=I;obtain⟨⟨e,g,m,o,r⟩,v⟩:=L;cases az;·obtain rfl:R=false:=dA;clear HR G;go_wp2_with fail;go_ret;exact⟨rfl,W⟩
   ·go_wp2_with fail;refine sG (G.out b8 X A n c A' n' c' aa (yZ Q W hX) bq M b5) fun ar z=> ?_
    have bp:=z.size;have b1:=I.below z V;have a7:=z.cl a6 V;have WJ:=W.sY V z;clear e g m o r v I a6 G;obtain⟨⟨e,g,m,o,r⟩,v⟩:=b1;cases b2;·obtain rfl:R=false:=dA;clear HR;go_wp2_with fail;go_ret;exact⟨rfl,WJ⟩
    ·by_cases a4:32<=d
     ·have b3:(32:Int)<=(d:Int):=V;have hdd:decide (32<=d)=true:=by simp[a4]
      by_cases C:k=5;·subst C;exact iD
      ·by_cases D:k=6;·subst D;exact iD
       ·have br:(k==5)=false:=rA.2 C;have bs:(k==6)=false:=rA.2 D;have uo:R=C7 items (d+1):=by rw[HR.out];simp[C,D]
        have a9:=aU.out ou C D;have b0:=rz a9;clear HR a9;have hcf:=DA 157 (enters_of Tryz.func157 bm rfl) #[sg (w.heap.size+1)] (fun x=> !ue x (d+1)) items ar X A n c (hr.keep (fun q S=>WJ.cell (hX _ S)) ug) ad (fun j h K=>(B j h K).stay WJ hX) bq M (fun x hx Z Y a2 E a0 c1 F a1 c2 w' U Iw=>MR N an x d fM (ab x hx) (absurd hx (by rw[b0.out];simp)) (w.heap.size+1) w' ((Iw.cell (p:=rN (w.heap.size+1) 0) bl).trans a7) dt X Z Y a2 E a0 c1 F a1 c2 U (fun b hb=>pi));exact mW
     ·have b3:¬(32:Int)<=(d:Int):=V;have uo:R=C7 items (d+1):=by rw[HR.out];simp[a4]
      clear HR;have hcf:=DA 157 (enters_of Tryz.func157 bm rfl) #[sg (w.heap.size+1)] (fun x=> !ue x (d+1)) items ar X A n c (hr.keep (fun q S=>WJ.cell (hX _ S)) ug) ad (fun j h K=>(B j h K).stay WJ hX) bq M (fun x hx Z Y a2 E a0 c1 F a1 c2 w' U Iw=>MR N an x d fM (ab x hx) V (w.heap.size+1) w' ((Iw.cell (p:=rN (w.heap.size+1) 0) bl).trans a7) dt X Z Y a2 E a0 c1 F a1 c2 U (fun b hb=>pi));exact mW
def Df(j:J)(e:tS j)(w:World)(X:afu)(k i:Int)(t:ByteArray)(A:aft)(n c:Nat)(A':aft)(n' c':Nat)(h:uq w X (jv k i t A n c A' n' c') j)(hX:∀b,X b->b<w.heap.size):Calls Tryz.prog 54 #[jA k i t A n c A' n' c'] w (vh w (.bool (ue j 0))):=by have sK:=(afw w).al rV (jC k i t A n c A' n' c');have r:=sK.l1;have d:=vW.new w k i t A n c A' n' c' w.heap.size rfl;have a:=Sk _ j 0 rV e V (w.alloc (jC k i t A n c A' n' c')) X k i t A n c A' n' c' (h.stay sK hX) bq;rw[show((0:Nat):Int)=0 from rfl]at a;generalize ue j 0=R at*;have HIH:=rz a;clear a;go_enter Tryz.func54,Tryz.ntmps54;go_upto_region 1 with fail;generalize w.alloc _=w1 at*;obtain⟨⟨g,l,m,o,p⟩,q⟩:=d;exact og
