import Derived.Test.YtccjlcadbpinfaaGreatDoorX18
import Derived.Test.YtccjlcadbpinfaaGreatDoorX20
set_option linter.all false
set_option maxRecDepth 100000
set_option maxHeartbeats 16000000
namespace Go.Proofs.YtccjlcadbpinfaaGreatDoor.Tp
open ChangeShapes WideShapes ChangeAt RowKit
open Num Mem Can
inductive Np(w:World)(X:afu):List Value->J->Prop
 |mk {kind int:Int} {text:afs} {A A':aft} {n c n' c':Nat} {items:List J} {keys:List afs} {uQ:List (List Value)} (hr:Row w X 5 A n uQ) (hl:uQ.length=items.length) (hi:∀(i:Nat)(h:i<uQ.length)(h':i<items.length),Np w X uQ[i] items[i]) (hk:Row w X 1 A' n' (uL keys)) (hn:n<=c) (Xy:n'<=c') (hc:n<=9223372036854775807) (Xm:n'<=9223372036854775807) (ht:text.length<=9223372036854775807) (hks:∀x∈keys,x.length<=9223372036854775807) (h1: -9223372036854775808<=int/\int<=9223372036854775807):Np w X (jv kind int ⟨text.toArray⟩ A n c A' n' c') (.mk kind int text items keys)
def Np.keep{w w':World}{X:afu}{cs:List Value}{j:J}(h:Np w X cs j)(a:∀q:Addr,X q.block->w'.cell? q=w.cell? q):Np w' X cs j:=by
 induction h with
 |mk hr hl _ ZR hn Xy hc Xm ht hks h1 ih=>exact .mk (hr.keep a ug) hl (fun i h b=>ih i h b) (ZR.keep a ug) hn Xy hc Xm ht hks h1
def Np.form{w:World}{X:afu}{cs:List Value}{j:J}(h:Np w X cs j):∃k i t A n c A' n' c',cs=jv k i t A n c A' n' c':=by cases h;exact⟨_,_,_,_,_,_,_,_,_,rfl⟩
def aaw{w:World}{X Y:afu}{A:aft}{n:Nat}{uQ:List (List Value)}{items:List J}(hr:Row w X 5 A n uQ)(d:uQ.length=items.length)(hi:∀(i:Nat)(h:i<uQ.length)(a:i<items.length),Np w Y uQ[i] items[i]){j:Nat}(b:j<n):∃g p x k i t A1 n1 c1 A2 n2 c2,A=some ⟨g,p,none⟩/\X g/\items[j]? =some x/\Np w Y (jv k i t A1 n1 c1 A2 n2 c2) x/\w.cell? (rN g (p+j*5))=some (.int .i64 k)/\w.cell? (rN g (p+j*5+1))=some (.int .i64 i)/\w.cell? (rN g (p+j*5+2))=some (.string t)/\w.cell? (rN g (p+j*5+3))=some (.slice A1 n1 c1)/\w.cell? (rN g (p+j*5+4))=some (.slice A2 n2 c2):=nX
def VQ:List afs->Int->Int
 | [],n=>n
 |a::r,n=>if n<=2500 then(if 2500<(a.length:Int)then 2501 else VQ r (n+a.length))else n
def GI(l:List afs):Int:=if 2500<(l.length:Int)then 2501 else VQ l l.length
def VS:∀(l:List afs)(n:Int),VQ l n<=2500->n<=2500/\∀a∈l,(a.length:Int)<=2500
 | [],n,h=>⟨h,fun a e=>by cases e⟩
 |a::r,n,h=>
 by
  simp only[VQ]at h;split at h
  ·split at h;·omega
   ·obtain⟨g,d⟩:=VS r _ h;refine⟨V,fun b hb=> ?_⟩;rcases sD.1 hb with rfl|hb;·omega
    ·exact d b hb
  ·omega
def Ps{l:List afs}(h:GI l<=2500):(l.length:Int)<=2500/\∀a∈l,(a.length:Int)<=2500:=by
 unfold GI at h;split at h;·omega
 ·exact⟨V,(VS l _ h).2⟩
def DT(l:List afs)(w:World)(X:afu)(A:aft)(n c:Nat)(hr:Row w X 1 A n (uL l))(L:n<=9223372036854775807)(C:∀a∈l,a.length<=9223372036854775807):Calls Tryz.prog 143 #[.slice A n c,.int .i64 2500] w (zW w (.int .i64 (GI l))):=by
 have o:l.length=n:=nH;obtain⟨R,d⟩:=sW (GI l);rw[<-d];unfold GI at d;rw[o]at d;have e:=rz d;have HL:=rz o;clear d o;go_enter Tryz.func143,Tryz.ntmps143;by_cases hb:(2500:Int)<(n:Int)
 ·obtain rfl:R=2501:=by rw[e.out,rG hb]
  clear e;exact bI
 ·have r:=rz (show R=VQ l n from by rw[e.out,rB hb]);clear e;go_wp2_with fail;go_loopw [5,6] (fun D p wr=>∃(j:Nat)(N:Int),p=.int .i64 j/\D=.int .i64 N/\j<=n/\(0<=N/\N<=5001)/\R=VQ (l.drop j) N/\w=wr) (fun _ p _=>n-(intOf p).toNat);case atStart=>exact⟨0,n,rfl,rfl,sb _,V,r.out,rfl⟩
  case
   round=>
    clear r;obtain⟨j,N,rfl,rfl,H,E,i,rfl⟩:=hrel;by_cases Dx:j<n
    ·have K:(j:Int)<(n:Int):=V;have m:j<l.length:=dv;have y:=rM m;obtain⟨g,q,B,G,v⟩:=hr.pos V;have x:=(v j [sv l[j]] (by simp[uL,m])).2 0 (sv l[j]) rfl;rw[tL,sE]at x;have F:=C l[j] (sj m);generalize l[j]=a at*;unfold sv at x;have b:=rz (show R=if N<=2500 then(if 2500<(a.length:Int)then 2501 else VQ (l.drop (j+1)) (N+a.length))else N from by rw[i,y];rfl);clear i y v;subst B;by_cases k:N<=2500
     ·by_cases t:(2500:Int)<(a.length:Int)
      ·obtain rfl:R=2501:=by rw[b.out,rG k,rG t]
       clear b;exact bI
      ·have z:=rz (show R=VQ (l.drop (j+1)) (N+a.length)from by rw[b.out,rG k,rB t]);clear b;go_wp2_with fail;refine⟨⟨j+1,N+a.length,bA,bA,V,V,z.out,kK⟩,?_⟩;exact bN
     ·obtain rfl:R=N:=by rw[b.out,rB k]
      clear b;exact bI
    ·have I:¬(j:Int)<(n:Int):=V;obtain rfl:R=N:=by rw[i,sx da];rfl
     clear i;exact bI
def CV:List afs->Int->Int
 | [],n=>n
 |a::r,n=>if n<=2500 then(if 2500<(a.length:Int)then 2501 else CV r (n+1+a.length))else n
def L0(a:J->Int):List J->Int->Int
 | [],n=>n
 |x::r,n=>if n<=2500 then L0 a r (n+a x)else n
def Gd:Nat->J->Int
 |0,_=>2501
 |f+1,j=>if 2500<(j.text.length:Int)\/2500<(j.keys.length:Int)\/2500<(j.items.length:Int)then 2501 else L0 (Gd f) j.items (CV j.keys (1+j.text.length))
def PO{a:J->Int}{l:List J}{n:Int}(h:2500<n):L0 a l n=n:=by
 cases l with
 |nil=>rfl
 |cons x r=>simp only[L0];exact nQ
def Kn:∀(l:List afs)(n:Int),0<=n->n<=5001->0<=CV l n/\CV l n<=5001
 | [],n,b,d=>⟨b,d⟩
 |a::r,n,b,d=>
 by
  simp only[CV];split
  ·split;·omega
   ·exact Kn r _ V V
  ·exact⟨b,d⟩
def TX{a:J->Int}{B:Int}(hb:∀x,0<=a x/\a x<=B):∀(l:List J)(n:Int),0<=n->n<=5001+B->0<=L0 a l n/\L0 a l n<=5001+B
 | [],n,b,d=>⟨b,d⟩
 |x::r,n,b,d=>
 by
  have:=hb x;simp only[L0];split;·exact TX hb r _ V V
  ·exact⟨b,d⟩
def E5:∀(f:Nat)(j:J),0<=Gd f j/\Gd f j<=5001*((f:Int)+1)
 |0,j=>by simp[Gd]
 |f+1,j=>
 by
  simp only[Gd];split;·omega
  ·rename_i h;have a:=Kn j.keys (1+j.text.length) V V;have:=TX (B:=5001*((f:Int)+1)) (E5 f) j.items (CV j.keys (1+j.text.length)) a.1 V;omega
def RH:∀(f d:Nat),f+d=61->∀(j:J)(w:World)(X:afu)(k i:Int)(t:ByteArray)(A:aft)(n c:Nat)(A':aft)(n' c':Nat),Np w X (jv k i t A n c A' n' c') j->(∀b,X b->b<w.heap.size)->Calls Tryz.prog 144 #[jA k i t A n c A' n' c',.int .i64 2500,.int .i64 d] w (vh w (.int .i64 (Gd f j))):=by
 intro f;induction f with
 |zero=>intro d ab j w X k i t A n c A' n' c' h z;have bs:(60:Int)<(d:Int):=V;have sK:=(afw w).al rV (jC k i t A n c A' n' c');obtain⟨R,m⟩:=sW (Gd 0 j);rw[<-m];obtain rfl:R=2501:=m;go_enter Tryz.func144,Tryz.ntmps144;exact nI
 |succ f c6=>
  intro d ab j w X k i t A n c A' n' c' h z;cases h with
  |mk hr bz bv an cp cr ci cj cy bx ck=>
   rename_i text items keys cc;have bs:¬(60:Int)<(d:Int):=V;have L:items.length=n:=cn;have M:keys.length=n':=by have:=an.len;exact db
   obtain⟨R,K⟩:=sW (Gd (f+1) (.mk k i text items keys));rw[<-K];have m:R=if 2500<(text.length:Int)\/2500<(keys.length:Int)\/2500<(items.length:Int)then 2501 else L0 (Gd f) items (CV keys (1+text.length)):=K;clear K;rw[L,M]at m;have e:=rz m;have b3:=rz L;have W:=rz M;clear m L M;have sK:=(afw w).al rV (jC k i ⟨text.toArray⟩ A n c A' n' c');have U:=sK.yg;have az:=sK.l1;go_enter Tryz.func144,Tryz.ntmps144;go_upto_region 1 with fail;generalize w.alloc _=w1 at*;obtain⟨b6,b7,b8,b9,bd, -⟩:=U.xe;by_cases be:(2500:Int)<(text.length:Int)
   ·obtain rfl:R=2501:=by rw[e.out,rG (.inl be)]
    clear e;exact bL
   by_cases bj:(2500:Int)<(n':Int)
   ·obtain rfl:R=2501:=by rw[e.out,rG (.inr (.inl bj))]
    clear e;exact bL
   by_cases bk:(2500:Int)<(n:Int)
   ·obtain rfl:R=2501:=by rw[e.out,rG (.inr (.inr bk))]
    clear e;exact bL
   obtain⟨o,H⟩:=sW (CV keys (1+text.length));have F:=rz (show R=L0 (Gd f) items o from by rw[e.out,rB V,H]);have Z:=rz H;clear e H;go_wp2_with fail;go_loopw [7,8] (fun Q S wr=>∃(p:Nat)(N:Int),S=.int .i64 p/\Q=.int .i64 N/\p<=n'/\(0<=N/\N<=5001)/\o=CV (keys.drop p) N/\w1=wr) (fun _ S _=>n'-(intOf S).toNat);case atStart=>exact⟨0,1+text.length,rfl,rfl,sb _,V,Z.out,rfl⟩
   case
    round=>
     clear Z;obtain⟨p,N,rfl,rfl,cs,a7,v,rfl⟩:=hrel;have key:2500<N\/p=n'->o=N:=fun h=>
      by
       rcases h with h|h
       ·rw[v];cases ab:keys.drop p with
        |nil=>rfl
        |cons a r=>simp only[CV];exact nQ
       ·rw[v,sx (by rw[W.out];omega)];rfl
     have l:=rz key;clear key;by_cases C:p<n'/\N<=2500
     ·obtain⟨bO,I⟩:=C;have ct:(p:Int)<(n':Int):=V;have O:p<keys.length:=by rw[W.out];exact bO
      have B:=rM O;obtain⟨g,q,bn,ad,a9⟩:=(an.below sK z).pos V;have aa:=(a9 p [sv keys[p]] (by simp[uL,O])).2 0 (sv keys[p]) rfl;rw[tL,sE]at aa;have cf:=bx keys[p] (sj O);generalize keys[p]=a at*;unfold sv at aa;have E:=rz (show o=if 2500<(a.length:Int)then 2501 else CV (keys.drop (p+1)) (N+1+a.length)from by rw[v,B];simp only[CV];rw[rG I]);clear v B a9 l;subst bn;by_cases a8:(2500:Int)<(a.length:Int)
      ·obtain rfl:R=2501:=by rw[F.out,E.out,rG a8];exact PO V
       clear F E;exact bL
      ·have b4:=rz (show o=CV (keys.drop (p+1)) (N+1+a.length)from by rw[E.out,rB a8]);clear E;go_wp2_with fail;refine⟨⟨p+1,N+1+a.length,bA,bA,V,V,b4.out,kK⟩,?_⟩;exact bN
     ·have a6:=l.out V;have Y:=rz a6;clear v l a6;have Nu:(p:Int)<(n':Int)/\¬N<=2500\/¬(p:Int)<(n':Int):=V;have a0:=rz (show R=L0 (Gd f) items N from by rw[F.out,Y.out]);clear F Y C;have cZ:∀P:Prop,P->P:=fun _ h=>h
      rcases Nu with⟨aU,c4⟩|aU;all_goals
       go_wp2_with fail;clear aU;try clear c4
       go_loopw [7,9] (fun Q T wr=>∃(q:Nat)(N:Int),T=.int .i64 q/\Q=.int .i64 N/\q<=n/\(0<=N/\N<=5001*((f:Int)+3))/\R=L0 (Gd f) (items.drop q) N/\Below w1.heap.size w1 wr) (fun _ T _=>n-(intOf T).toNat);case atStart=>exact⟨0,N,rfl,rfl,sb _,V,a0.out,Below.refl _ _⟩
       case
        round=>
         clear a0 a7;obtain⟨q,N,rfl,rfl,ar,a7,y,G⟩:=hrel;have cx:=G.size;have Ac:=sK.trans (G.mono (zE az));obtain⟨b6,b7,b8,b9,bd, -⟩:=(U.below G az).xe;have key:2500<N\/q=n->R=N:=fun h=>
          by
           rcases h with h|h;·rw[y];exact PO h
           ·rw[y,sx (by rw[b3.out];omega)];rfl
         have l:=rz key;clear key;by_cases C:q<n/\N<=2500
         ·obtain⟨c3,I⟩:=C;have cv:(q:Int)<(n:Int):=V;obtain⟨g,cz,x,c7,c5,cb,b0,c8,c1,b1,c9,c2,rfl,ad,hx,bw,a1,a2,a3,a4,a5⟩:=aaw hr bz bv c3;have D:=z g ad;have cA:=Ac.cl a1 D;have cE:=Ac.cl a2 D;have cR:=Ac.cl a3 D;have cS:=Ac.cl a4 D;have cW:=Ac.cl a5 D;have B:items.drop q=x::items.drop (q+1):=gN;have af:=c6 (d+1) V x wr X c7 c5 cb b0 c8 c1 b1 c9 c2 (bw.keep fun q ar=>Ac.cell (z _ ar)) (fun b hb=>rS (z b hb) Ac.size);have ch:=E5 f x;have b5:=rz (show R=L0 (Gd f) (items.drop (q+1)) (N+Gd f x)from by rw[y,B];simp only[L0];rw[rG I]);generalize Gd f x=b2 at*;clear y B hx l a1 a2 a3 a4 a5;go_wp2_with fail;refine sG af fun d0 br=> ?_
          clear af;go_wp2_with fail;refine⟨⟨q+1,N+b2,bA,bA,V,V,b5.out,G.sY rV br⟩,?_⟩;exact bN
         ·have bp:=l.out V;have Nu:(q:Int)<(n:Int)/\¬N<=2500\/¬(q:Int)<(n:Int):=V;subst bp;clear y l C;exact jh
def VA{S:List Nd}{d:Nat->Sh->J×Sh}:∀(fs:List Fd)(a R:Nat),vD (ShL S d) (fs.map (·.type)) a R->∀st:Sh,Met S a st.1->Met S R (vC d fs st).2.1:=by
 intro fs;induction fs with
 |nil=>intro a R h st b;cases h;exact b
 |cons f r i=>
  intro a R h st b;rw[xB]at h;cases h with
  |cons e g=>exact i _ _ g _ (e.2.2 st b)
def Yb{S:List Nd}{d:Nat->Sh->J×Sh}:∀(ks:List Int)(a R:Nat),vD (ShL S d) ks a R->∀st:Sh,Met S a st.1->Met S R (AJ d ks st).2.1:=by
 intro ks;induction ks with
 |nil=>intro a R h st b;cases h;exact b
 |cons k r i=>
  intro a R h st b;cases h with
  |cons e g=>exact i _ _ g _ (e.2.2 st b)
def Yc{S:List Nd}{F a b:Nat}{x:Nd}(g:S[a]? =some x)(BI:vM S x=true)(v:vD (TC S F) (uk x) (a+1) b)(ar:afs)(st:Sh)(j:Met S a st.1):Met S b (xS S (F+1) ar a st).2.1:=by
 have i:∀ar,vD (ShL S (xS S F ar)) (uk x) (a+1) b:=fun ar=>v.imp (fun k a b h=>h.1 ar)
 rw[xS];simp only[g];by_cases o:x.kind<=8;·rw[rG o];have y:sr x.kind=false:=lm;have l:uk x=[]:=pT;have d:=i ar;rw[l]at d;cases d;exact yy g y j
 ·rw[rB o];cases hN:sr x.kind with
  |true=>
   have p:=Jw j g hN;rw[rI (ER a)]at p;rw[rG rfl,rB (by rw[p];simp)];have e:=BN g j;unfold MV;by_cases n:x.kind=9;·rw[rG n];have d:=i (sO x.name);unfold uk at d;rw[rG n]at d;exact VA _ _ _ d _ e
   ·have l:uk x=[]:=qi;have d:=i ar;rw[l]at d;cases d;rw[rB n];split;·exact e
    ·exact e
  |false=>
   rw[rB bA];have e:=yy g hN j;have d:=i ar;by_cases m:x.kind=13;·rw[rG m];unfold uk at d;rw[rB V,rB V,rG m]at d;exact Yb _ _ _ d _ e
   ·rw[rB m];have t:x.kind=11\/x.kind=12:=cP;unfold uk at d;rw[rB V,rG t]at d;cases d with
    |cons q r=>cases r;exact q.2.2 st e
def aaz{S:List Nd}(ok:LP S)(f:Nat)(k:Int)(m:Nat)(M:0<=k)(R:k<(m:Int))(hn:(match S[k.toNat]? with|some y=>sr y.kind|none=>false)=true):TC S (f+1) k m m:=by
 cases hx:S[k.toNat]? with
 |none=>rw[hx]at hn;cases hn
 |some x=>
  rw[hx]at hn;simp only at hn;obtain⟨a,rfl⟩:∃a:Nat,k=(a:Int):=⟨k.toNat,V⟩;rw[su]at hx;have T:¬x.kind<=8:=fO;have cc:=zm (Af (ok.node x (rU hx)) hn).name;have e:∀(ar:afs)(st:Sh),Met S m st.1->xS S (f+1) ar a st=(jT x.name,(st.1,st.2||(tK ar&& !tK (sO x.name)))):=fun ar st j=>by have l:=(j.iff a x hx hn).2 V;unfold xS;simp only[hx,rB T,rG hn,rG l]
  refine⟨fun ar=>⟨rZ _,⟨M,R⟩,fun st j=> ?_⟩,fun ar st c7 j w g h a4 A n c root X hS=> ?_⟩;·rw[su,e ar st j];exact j
  rw[su,e ar st j];have l:=Jw j hx hn;have U:a<m:=V;rw[rY U]at l;have cb:(8:Int)<x.kind:=V;have hsx:=fun w'=>BA x.name V w'
  obtain⟨I,Z⟩:=sW (sO x.name);rw[<-Z]at hsx|-;clear e T M R U Z;have az:=hS.at_.2.2.2.2.2;have hX:∀b,X b->b<w.heap.size:=fun b hb=>iy
  have c8:=hS.Dj;have c9:g<w.heap.size/\h<w.heap.size:=kw;have O:a<n:=jJ;have c6:(a:Int)<(n:Int):=V;obtain⟨q,p,_,_,_,_,_,_,_,_,_,_,_,_,_,rfl,bv,_⟩:=uY hS.row O;have d:=(afw w).al rV (jZ);have L:=vW.new w 0 0 ⟨#[]⟩ none 0 0 none 0 0 w.heap.size rfl;have S0:=hS.below d az;have K:sN g h w.heap.size w (w.alloc (jZ)):=sN.below d;have bw:=d.s1;clear d;go_enter Tryz.func59,Tryz.ntmps59;go_upto_region 1 with fail;generalize w.alloc _=w1 at*;have ch:w1.heap.size<=w.heap.size+1:=V;have ci:w.heap.size+1<=w1.heap.size:=V;clear bw;obtain⟨c3,bO,x',o,E,c1,r,F,c2,z,G,C,B,H,D,YW,_,Ux,⟨a5,a6,a7,a8,a9,aa,ab,ad,af,an⟩,⟨a0,a1,a2,a3⟩,⟨bd,be,bj,bk⟩,bn,bp,br,bs⟩:=uY S0.row O;obtain⟨rfl,rfl⟩:q=c3/\p=bO:=jB;obtain rfl:x=x':=iG;clear YW Ux;have N:Lw w1 X (nL x o E c1 r F c2 z G C B H D) x:=.mk a0 a1 a2 a3 bd be bj bk bn bp br bs;have cf:=hX q bv;have d:=(afw w1).al rV (nC x o E c1 r F c2 z G C B H D);have N1:=wm.new w1 x o E c1 r F c2 z G C B H D w1.heap.size rfl;have R1:=L.below d V;have S1:=S0.below d V;have O1:=K.trans (sN.below (d.mono V));have I1:=N.keep (w':=w1.alloc (nC x o E c1 r F c2 z G C B H D)) (Y:=X) (fun q hq=>d.cell bM) ug;have bx:=d.s1;have c0:=S0.c0;clear a0 a1 a2 a3 d L K N hS;go_upto_region 2 with fail;generalize w1.alloc _=w2 at*;have cj:w2.heap.size<=w1.heap.size+1:=V;have ck:w1.heap.size+1<=w2.heap.size:=V;clear bx c0 a5 a6 a7 a8 a9 aa ab ad af an S0;have aU:=N1;obtain⟨⟨b0,b1,b2,b3,b4,b5,b6,b7,b8,b9⟩,bz⟩:=aU;have W:=vg x.kind w2;have yh:=(S1.mt a true l).1;have cc2:=S1.c2;have cc3:=S1.c3;have cz:=S1.fz 3;clear l;go_wp2_with fail;refine tZ W ?_;clear W;rw[hn];have Q:∀v:Bool,v=(st.2||(tK ar&& !tK I))->As (w2.setCell ⟨g,3,none⟩ (.bool v)) g h a4 (some ⟨q,p,none⟩) n c root S X (st.1,st.2||(tK ar&& !tK I)):=fun v hv=>by rw[<-hv];exact S1.Zb v
  have HF:=rz Q;clear Q;cases hv:st.2 with
  |true=>rw[hv]at cc3;have S4:=HF.out true (by rw[hv,zA]);have z4:sN g h w2.heap.size w2 (w2.setCell ⟨g,3,none⟩ (.bool true)):=sN.Fu 3 _;exact pC
  |false=>
   rw[hv]at cc3;cases ar with
   |nil=>have S4:=HF.out false (by rw[hv];rfl);have z4:sN g h w2.heap.size w2 (w2.setCell ⟨g,3,none⟩ (.bool false)):=sN.Fu 3 _;exact pC
   |cons s0 cp=>
    cases I with
    |nil=>have S4:=HF.out true (by rw[hv];rfl);have z4:sN g h w2.heap.size w2 (w2.setCell ⟨g,3,none⟩ (.bool true)):=sN.Fu 3 _;exact pB
    |cons c4 c5=>have S4:=HF.out false (by rw[hv];rfl);have z4:sN g h w2.heap.size w2 (w2.setCell ⟨g,3,none⟩ (.bool false)):=sN.Fu 3 _;exact pB
def Yl{S:List Nd}(ok:LP S):∀(f a b:Nat),ye S f a=some b->TC S (f+1) (a:Int) a b:=by
 intro f;induction f with
 |zero=>intro a b b6;cases b6
 |succ f g2=>
  intro a b b6;simp only[ye]at b6;cases hx:S[a]? with
  |none=>rw[hx]at b6;cases b6
  |some x=>
   rw[hx]at b6;have BI:=ok.node x (rU hx);have d9:vD (TC S (f+1)) (uk x) (a+1) b:=Ma (P:=TC S (f+1)) (fun k az h7 hk hn=>aaz ok f k az h7 hk hn) (ye S f) (fun a b h=>g2 a b h) _ _ _ b6;have hY:a+1<=b:=vD.le (fun k a b h=>(h.1 []).1) d9;refine⟨fun ar=>⟨V,⟨V,V⟩,fun st bp=>by rw[su];exact Yc hx BI d9 ar st bp⟩,fun ar st e4 bp w g h cc A n c root X hS=> ?_⟩;rw[su];obtain⟨hU,cv⟩:=sW (xS S (f+1+1) ar a st);rw[<-cv];rw[xS]at cv;simp only[hx]at cv;have ch:=rz cv;have cf:=rz d9;clear cv d9 b6 g2;have ha:=hS.at_.2.2.2.2.2;have hX:∀b,X b->b<w.heap.size:=fun b hb=>iy
   have bO:=hS.Dj;have i1:g<w.heap.size/\h<w.heap.size:=kw;have e3:a<n:=jJ;have hZ:(a:Int)<(n:Int):=V;obtain⟨q,p,_,_,_,_,_,_,_,_,_,_,_,_,_,rfl,hv,_⟩:=uY hS.row e3;have a0:=(afw w).al rV (jZ);have f4:=vW.new w 0 0 ⟨#[]⟩ none 0 0 none 0 0 w.heap.size rfl;have S0:=hS.below a0 ha;have f1:sN g h w.heap.size w (w.alloc (jZ)):=sN.below a0;have hw:=a0.s1;clear a0;go_enter Tryz.func59,Tryz.ntmps59;go_upto_region 1 with fail;generalize w.alloc _=w1 at*;have ip:w1.heap.size<=w.heap.size+1:=V;have ir:w.heap.size+1<=w1.heap.size:=V;clear hw;obtain⟨hH,hG,x',c7,cW,c1,c8,cZ,c2,c9,d0,cr,cb,U,ct,YW,_,Ux,⟨gx,gz,gA,gR,gW,h0,h3,h4,h5,h6⟩,⟨d1,d2,d3,c5⟩,⟨hc,hd,he,hf⟩,ho,hp,hr,hs⟩:=uY S0.row e3;obtain⟨rfl,rfl⟩:q=hH/\p=hG:=jB;obtain rfl:x=x':=iG;clear YW Ux;have fi:Lw w1 X (nL x c7 cW c1 c8 cZ c2 c9 d0 cr cb U ct) x:=.mk d1 d2 d3 c5 hc hd he hf ho hp hr hs;have i9:=hX q hv;have a0:=(afw w1).al rV (nC x c7 cW c1 c8 cZ c2 c9 d0 cr cb U ct);have a3:=wm.new w1 x c7 cW c1 c8 cZ c2 c9 d0 cr cb U ct w1.heap.size rfl;have a7:=f4.below a0 V;have S1:=S0.below a0 V;have a4:=f1.trans (sN.below (a0.mono V));have b7:=fi.keep (w':=w1.alloc (nC x c7 cW c1 c8 cZ c2 c9 d0 cr cb U ct)) (Y:=X) (fun q hq=>a0.cell bM) ug;have hz:=a0.s1;have c0:=S0.c0;clear d1 d2 d3 c5 a0 f4 f1 fi hS;go_upto_region 2 with fail;generalize w1.alloc _=w2 at*;have it:w2.heap.size<=w1.heap.size+1:=V;have iv:w1.heap.size+1<=w2.heap.size:=V;clear hz c0 gx gz gA gR gW h0 h3 h4 h5 h6 S0;have af:=a3;obtain⟨⟨r,v,B,C,D,E,F,G,H,I⟩,L⟩:=af;have Xo:¬X g/\¬X h:=⟨fun hx=>(bO g hx).2.1 rfl,fun hx=>(bO h hx).2.2 rfl⟩;by_cases e0:x.kind<=8
   ·have l:=ch.out;rw[rG e0]at l;have De:=rz l;have b5:=BC x.kind w2 S1.zL;clear l ch bp;go_wp2_with fail;refine tZ b5 ?_;clear b5;have gn:=a7;have d6:=S1;have gd:=a4;go_wp2_with fail;refine sG (yd (tI x.kind) w2) fun M d8=> ?_
    have hC:=d8.size;have a8:=gn.below d8 V;have a9:=d6.below d8 V;have a5:=gd.trans (sN.below (d8.mono V));clear r v B C D E F G H I L;obtain⟨⟨u0,u1,u2,u3,u4⟩,u5⟩:=a8;go_wp2_with fail;refine sc (uX (k:=4) (i:=0) (t:=⟨((tI x.kind)).toArray⟩) (A:=none) (n:=0) (c:=0) (A':=none) (n':=0) (c':=0) rfl rfl ⟨bi,bi,bi,bi,bi⟩) rfl ?_;have yG:sa w.heap.size M.heap.size M (((((M.setCell ⟨w.heap.size,0,none⟩ (.int .i64 4)).setCell ⟨w.heap.size,1,none⟩ (.int .i64 0)).setCell ⟨w.heap.size,2,none⟩ (.string ⟨((tI x.kind)).toArray⟩)).setCell ⟨w.heap.size,3,none⟩ (.slice none 0 0)).setCell ⟨w.heap.size,4,none⟩ (.slice none 0 0)):=(((((sa.refl _ _ _).setAt 0 _).setAt 1 _).setAt 2 _).setAt 3 _).setAt 4 _;have ze:Below w.heap.size M _:=yG.below V rV;rw[De.out];exact⟨4,0,⟨((tI x.kind)).toArray⟩,none,0,0,none,0,0,rfl,ya _ _ _,a9.keep yG.size (fun b hb=>ze.block b V),a5.trans (sN.below ze)⟩
   ·have hW:(8:Int)<x.kind:=V;have l:=ch.out;rw[rB e0]at l;have c4:=fun w'=>vg x.kind w'
    clear e0;cases hN:sr x.kind with
    |true=>
     have cA:=Jw bp hx hN;rw[rI (ER a)]at cA;have hO:=(S1.mt a false cA).1;have hh:=(S1.mt a false cA).2;rw[rG hN,rB (by rw[cA];simp)]at l;have De:=rz l;have g7:=rz (BN hx bp);have go:=S1.c2;have fl:=fun w' S' g8=>Pd S (f+1) a b x hx BI hN (fun h8=>by have:=cf.out;unfold uk at this;rw[rG h8]at this;exact this) (st.1.set a true,st.2) g7.out c7 cW c1 c8 cZ c2 c9 d0 cr cb U ct w' g h cc (some ⟨q,p,none⟩) n c root X S' g8
     clear l ch cA;go_wp2_with fail;refine tZ (c4 _) ?_;rw[hN];go_wp2_with fail;refine tZ (c4 _) ?_;rw[hN];go_upto_region 9 with fail;have S4:=S1.meet e3;have c6:sN g h w2.heap.size w2 (w2.setCell ⟨h,a,none⟩ (.bool true)):=sN.IW a _;have b3:=a7.AA (c6.block w.heap.size V V V);have b9:=a3.AA (c6.block w1.heap.size V V V);have b2:=a4.trans (c6.mono V);have I4:=b7.keep (w':=w2.setCell ⟨h,a,none⟩ (.bool true)) (Y:=X) (fun q hq=>c6.cell bM (bO _ hq).2.1 (bO _ hq).2.2) ug;have j3:=c6.size;clear c6 a7 a3 a4 S1 b7 hO hh go r v B C D E F G H I L;generalize w2.setCell _ _=a1 at*;obtain⟨⟨r,v,B,C,D,E,F,G,H,I⟩,L⟩:=b9;have fm:=fl a1 S4 I4;clear fl S4 I4;go_wp2_with fail;refine fm.mono ?_;rintro e' M ⟨ed,eb,bw,N,az,ds,O,eg,dx,rfl,hi,a9,d7⟩;have hC:=d7.size;have a8:=b3.AA (d7.block w.heap.size V V V);have a5:=b2.trans (d7.mono V);clear fm b3 b2 d7 r v B C D E F G H I L;obtain⟨⟨u0,u1,u2,u3,u4⟩,u5⟩:=a8;go_wp2_with fail;refine sc (uX (k:=ed) (i:=eb) (t:=bw) (A:=N) (n:=az) (c:=ds) (A':=O) (n':=eg) (c':=dx) rfl rfl ⟨bi,bi,bi,bi,bi⟩) rfl ?_;have yG:sa w.heap.size M.heap.size M (((((M.setCell ⟨w.heap.size,0,none⟩ (.int .i64 ed)).setCell ⟨w.heap.size,1,none⟩ (.int .i64 eb)).setCell ⟨w.heap.size,2,none⟩ (.string bw)).setCell ⟨w.heap.size,3,none⟩ (.slice N az ds)).setCell ⟨w.heap.size,4,none⟩ (.slice O eg dx)):=(((((sa.refl _ _ _).setAt 0 _).setAt 1 _).setAt 2 _).setAt 3 _).setAt 4 _;have ze:Below w.heap.size M _:=yG.below V rV;rw[De.out];exact⟨ed,eb,bw,N,az,ds,O,eg,dx,rfl,hi.keep (fun q hq=>yG.cell gD (by rcases hq with h|h;(have:=hX _ h;omega);omega)) (fun b hb=>by rcases hb with h|h;exact .inl h;exact .inr ⟨V,dK⟩),a9.keep yG.size (fun b hb=>ze.block b V),a5.trans (sN.below ze)⟩
    |false=>
     rw[rB (by rw[hN];simp)]at l;have di:=rz (yy hx hN bp);have d5:=rz l;clear ch bp l;go_wp2_with fail;refine tZ (c4 _) ?_;rw[hN];go_wp2_with fail;refine tZ (c4 _) ?_;rw[hN];by_cases IA:x.kind=13
     ·have gs:decide (x.kind=13)=true:=rY IA;have hF:(x.kind==13)=true:=tl.2 IA;have l:=d5.out;rw[rG IA]at l;have De:=rz l;have HKK:=rz (show vD (TC S (f+1)) x.rX (a+1) b by have:=cf.out;exact oB);have e5:=Dc BI IA;have c5:=b7.inv.1.2.2.2;have QP:=rz (show x.rX.length=U by have:=c5.len;exact fQ);have i8:U<=10:=by rw[QP.out]at e5;exact e5
      clear l d5 cf c4 e5 IA;go_wp2_with fail;refine sG (HT w2) fun m bn=> ?_
      clear r v B C D E F G H I L;have f0:=a3.below bn V;clear a3;have f6:=a7.below bn V;have f8:=S1.below bn V;have f3:=a4.trans (sN.below (bn.mono V));have k6:=bn.size;clear a7 S1 a4;have g4:=Row.below c5 bn bq;clear bn c5 b7;have be:=(afw m).al rV (jC 5 0 ⟨#[]⟩ none 0 0 none 0 0);have et:=vW.new m 5 0 ⟨#[]⟩ none 0 0 none 0 0 m.heap.size rfl;have hy:=be.s1;have gb:=f0.below be V;have f5:=f6.below be V;have f7:=f8.below be V;have f2:=f3.trans (sN.below (be.mono V));have g3:=Row.below g4 be bq;clear f0 f6 f8 f3 g4 be;go_upto_region 12 with fail;generalize m.alloc _=b1 at*;have ih:b1.heap.size<=m.heap.size+1:=V;have ii:m.heap.size+1<=b1.heap.size:=V;clear hy;have ht:uK uq 60 5 X nS b1 b1.heap.size none 0 0 ([]:List J):=uK.nil _ _ _ _ _ _ _;obtain⟨⟨r,v,B,C,D,E,F,G,H,I⟩,L⟩:=gb;go_wp2_with fail;clear r v B C D E F G H I L;go_loopw [84] (fun ek wr=>∃(jj:Nat)(acc:List J)(aa:Sh)(az:Nat)(a2:aft)(bj:Nat),ek=.int .i64 jj/\jj<=U/\RowKit.Hid ((acc++(AJ (xS S (f+1) ar) (x.rX.drop jj) aa).1,(AJ (xS S (f+1) ar) (x.rX.drop jj) aa).2)=AJ (xS S (f+1) ar) x.rX st)/\Met S az aa.1/\RowKit.Hid (vD (TC S (f+1)) (x.rX.drop jj) az b)/\vW wr m.heap.size 5 0 ⟨#[]⟩ a2 jj bj none 0 0/\uK uq 60 5 X nS wr b1.heap.size a2 jj bj acc/\As wr g h cc (some ⟨q,p,none⟩) n c root S X aa/\sN g h m.heap.size b1 wr) (fun ek _=>U-(intOf ek).toNat);case atStart=>exact⟨0,[],st,a+1,none,0,rfl,sb _,fF,di.out,gI,et,ht,f7,sN.refl _ _ _ _⟩
      case
       round=>
        obtain⟨jj,acc,aa,az,a2,bj,rfl,i7,hq,g1,e6,e2,bz,S1,bs⟩:=hrel;have ix:=bs.size;have eh:=g3.keep (w':=wr) (Y:=X) (fun q hq=>bs.cell bM (bO _ hq).2.1 (bO _ hq).2.2) ug;by_cases Dx:jj<U
        ·have hj:(jj:Int)<(U:Int):=V;have e9:jj<x.rX.length:=im;obtain⟨gf,j4,rfl,i5,fn⟩:=eh.pos V;have fE:=(fn jj [.int .i64 x.rX[jj]] (by simp[xZ,e9])).2 0 _ rfl;rw[tL,sE]at fE;have cy:x.rX.drop jj=x.rX[jj]::x.rX.drop (jj+1):=rM e9;have ft:=e6.out;have an:=hq.out;rw[cy]at ft an;rw[AJ]at an;generalize x.rX[jj]=k at*;cases ft with
         |cons c3 g0=>
          rename_i Ta;have hm':Met S Ta (xS S (f+1) ar k.toNat aa).2.1:=(c3.1 ar).2.2 aa g1;have h9:=bz.block;have HQ:=rz an;have HKR:=rz g0;have em:=rz c3;clear cy an hq e6 e9 eh g0 c3 fn;go_upto_region 15 with fail;refine vO (K:=Kb (fun b=>b=m.heap.size)) (Kb.keeps _) (sA.of [0,1,2,3,4,5,6,7,8] .nil) 9 (sA.of [] .nil) [5,6,7] [1] bm bm bF bm bt (fun wd cx tj=> ?_);have dp:=e2.below cx V;have dj:=bz.below ve cx;have f9:=S1.below cx V;have g6:=bs.trans (sN.below (cx.mono V));have id:wr.heap.size<=wd.heap.size:=V;clear cx tj e2 bz S1 bs fE;have fc:=dp.1.2.2.2.1;repeat((first|(refine wM rfl rfl rfl rfl bo ?_)|(refine wO rfl rfl rfl rfl ?_)|(refine wN rfl rfl rfl rfl 0 rV _ (by intro w' hb;have k5:=(Kb.cell hb (q:=rN m.heap.size 3) (by simp)).trans fc;clear hb;go_simp;first|done|with_reducible rfl) ?_));simp only[Act.put,rH,rC,rF])
          refine uC rfl rfl 0 rV (fun dr Z=> ?_);go_wp2_with fail;refine(em.out.2 ar aa e4 g1 wd g h cc _ n c root X f9).mono ?_;rintro e' bx ⟨cS,cE,d4,N,aU,ab,O,b0,ad,rfl,fx,fb,bk⟩;go_wp2_with fail;refine Z _ _ (fun b hb=>bk.block b V V V) ?_;clear Z fc em f9;have j2:=bk.size;have fj:=dj.block;have er:=dp.AA (bk.block m.heap.size V V V);have b7:=dj.grown ve bk.size (fun b hb hm _=>bk.block b hm li lk);have g5:=g6.trans (bk.mono V);generalize xS S (f+1) ar k.toNat aa=rf at*;clear dp dj g6 bk;refine aK ?_;refine uC rfl rfl 0 rV (fun dr Z=> ?_);go_wp2_with fail;have b4:=(afw bx).al rV (jC cS cE d4 N aU ab O b0 ad);have ga:=vW.new bx cS cE d4 N aU ab O b0 ad bx.heap.size rfl;have ji:=b4.l1;refine Z _ _ (Kb.below bP b4) ?_;clear Z;have es:=er.below b4 V;have en:=b7.below ve b4;have d6:=fb.below b4 V;have el:=g5.trans (sN.below (b4.mono V));have hM:=fx.keep (w':=bx.alloc (jC cS cE d4 N aU ab O b0 ad)) (Y:=fun b=>(X b\/b1.heap.size<=b)/\b<(bx.alloc (jC cS cE d4 N aU ab O b0 ad)).heap.size/\a2.map (·.block)≠some b/\¬nS b) (fun q hq=>b4.cell gD) (fun b hb=>⟨oQ,fv,fun e7=>by have e:=fj b e7;exact fv,fun h=>h⟩);clear er b7 g5 b4 fb fx fj;generalize bx.alloc _=hP at*;have j1:=el.size;obtain⟨⟨i0,i1',i2,i3,i4⟩,_⟩:=ga;refine aK ?_;refine uC rfl rfl 0 rV (fun dr Z=> ?_);go_wp2_with(at_builtin;go_must(refine wV (z:=jA 0 0 ⟨#[]⟩ none 0 0 none 0 0) (bytes:=80) (y:=rf.1) (cs:=jv cS cE d4 N aU ab O b0 ad) rfl tQ yP rfl V V ve rfl rfl en hM (fun b hb=>hb.elim) (fun j u hu=>fW) V V ?_);intro Bi ei df I3 dz ff i6);have dd:∀b,b=m.heap.size->b<hP.heap.size/\a2.map (·.block)≠some b:=fun b hb=>⟨V,fun e7=>by have e:=h9 b e7;omega⟩
          have fS:=ff.2 m.heap.size (dd _ rfl).1 (dd _ rfl).2;refine Z _ _ (Kb.DZ dd ff) ?_;clear Z;have g9:=es.AA fS;have z3':=el.trans (sN.below (dz.mono V));have S3:=d6.below dz V;clear es en el d6 dd fS dz;refine aK ?_;obtain⟨⟨u0,u1,u2,u3,u4⟩,u5⟩:=g9;refine Az rfl (fun dr Z=> ?_);go_wp2_with fail;refine Z _ _ trivial ?_;clear Z;refine sF ?_;have J4:vW (df.setCell ⟨m.heap.size,3,none⟩ (.slice Bi (jj+1) ei)) m.heap.size 5 0 ⟨#[]⟩ Bi (jj+1) ei none 0 0:=⟨⟨bi,bi,bi,bi,bi⟩,fun j=>gM⟩;have I4:=I3.setAt ve (show m.heap.size<b1.heap.size from V) (fun h=>by have:=hX _ h;omega) 3 (.slice Bi (jj+1) ei);have o:Below m.heap.size df (df.setCell ⟨m.heap.size,3,none⟩ (.slice Bi (jj+1) ei)):=(Below.refl m.heap.size df).setCell bl _;have S4:=S3.below o V;have z4':=z3'.trans (sN.below o);have hq9:RowKit.Hid (((acc++[rf.1])++(AJ (xS S (f+1) ar) (x.rX.drop (jj+1)) rf.2).1,(AJ (xS S (f+1) ar) (x.rX.drop (jj+1)) rf.2).2)=AJ (xS S (f+1) ar) x.rX st):=by rw[sw];exact HQ.out
          exact nM
        ·obtain rfl:jj=U:=V;have hj:¬(jj:Int)<(jj:Int):=V;have cy:x.rX.drop jj=[]:=by rw[<-QP.out];exact zB
         have an:=hq.out;rw[cy]at an;simp only[AJ,sX]at an;have HQ:=rz an;obtain⟨hV,d1,d2,d3⟩:=bz.row ve V;have hg:=bz.cap;have gl:=f5.AA (bs.block w.heap.size V V V);have gc:=f2.trans (bs.mono V);have hl:uq wr (fun b=>(X b\/b1.heap.size<=b)/\b<wr.heap.size) (jv 5 0 ⟨#[]⟩ a2 jj bj none 0 0) (jL acc):=.mk d1 d2 d3 (Row.nil _ _ _ _) hg rV V V;obtain⟨⟨jk,k0,k1,k2,k3⟩,k4⟩:=e2;obtain⟨⟨u0,u1,u2,u3,u4⟩,u5⟩:=gl;clear cy an hq e6 eh bz d1 d2 d3 bs f5 f2 g3 f7 et;go_wp2_with fail;refine sc (uX (k:=5) (i:=0) (t:=⟨#[]⟩) (A:=a2) (n:=jj) (c:=bj) (A':=none) (n':=0) (c':=0) rfl rfl ⟨bi,bi,bi,bi,bi⟩) rfl ?_;have yG:sa w.heap.size wr.heap.size wr (((((wr.setCell ⟨w.heap.size,0,none⟩ (.int .i64 5)).setCell ⟨w.heap.size,1,none⟩ (.int .i64 0)).setCell ⟨w.heap.size,2,none⟩ (.string ⟨#[]⟩)).setCell ⟨w.heap.size,3,none⟩ (.slice a2 jj bj)).setCell ⟨w.heap.size,4,none⟩ (.slice none 0 0)):=(((((sa.refl _ _ _).setAt 0 _).setAt 1 _).setAt 2 _).setAt 3 _).setAt 4 _;have ze:Below w.heap.size wr _:=yG.below V rV;rw[De.out,<-HQ.out];exact⟨5,0,⟨#[]⟩,a2,jj,bj,none,0,0,rfl,hl.keep (fun q hq=>yG.cell hq.2 dc) (fun b hb=>mE),S1.keep yG.size (fun b hb=>ze.block b V),gc.trans (sN.below ze)⟩
     ·have hF:(x.kind==13)=false:=rA.2 IA;have gs:decide (x.kind=13)=false:=rI IA;have l:=d5.out;rw[rB IA]at l;have c3:TC S (f+1) x.items (a+1) b:=by have Rx:x.kind=11\/x.kind=12:=cP;have:=cf.out;exact om
      clear cf c4 d5;by_cases bv:x.kind=12
      ·have hE:(x.kind==12)=true:=tl.2 bv;have gr:decide (x.kind=12)=true:=rY bv;rw[rG bv]at l;have De:=rz l;clear l bv;go_wp2_with fail;refine(Cl w2).mono ?_;rintro e' T br;have e1:=br.1;subst e1;have bd:=Obj.new br X bq;obtain⟨_,ea,_,_,R⟩:=br;have hA:T.heap.size<=w2.heap.size+2:=V;have hB:w2.heap.size+2<=T.heap.size:=V;clear ea r v B C D E F G H I L;have b8:=a3.below R V;clear a3;have cp:=a7.below R V;have S3:=S1.below R V;have cj:=a4.trans (sN.below (R.mono V));have hQ:=R.size;clear a7 S1 a4;have af:=b8;obtain⟨⟨r,v,B,C,D,E,F,G,H,I⟩,L⟩:=af;have b5:=BC x.kind T S3.zL;go_wp2_with fail;refine tZ b5 ?_;clear b5;go_wp2_with fail;refine sG (yd (tI x.kind) T) fun a1 o=> ?_
       clear r v B C D E F G H I L;have ck:=bd.below o;have cR:=Obj.item (w:=a1) bd (ya a1 (fun _=>False) (tI x.kind)) (fun b hb=>hb.elim);clear bd R;have b9:=b8.below o V;clear b8;have b3:=cp.below o V;have S4:=S3.below o V;have b2:=cj.trans (sN.below (o.mono V));have hR:=o.size;clear cp S3 cj;clear o;go_wp2_with fail;refine sG (vA true tC (jT (tI x.kind)) 4 0 ⟨(tI x.kind).toArray⟩ none 0 0 none 0 0 a1 (w2.heap.size+1) w2.heap.size T.heap.size X [] [] _ _ _ _ _ _ ck cR bA bA) fun M ⟨⟨gi,hI,hK,gk,hJ,hL,a6⟩,KG⟩=> ?_
       clear cR ck;have Kx:Below w2.heap.size a1 M:=KG.below V rV;have ci:=b9.below Kx V;clear b9;have a8:=b3.below Kx V;have a9:=S4.below Kx V;have a5:=b2.trans (sN.below (Kx.mono V));have hT:=Kx.size;clear b3 S4 b2;clear KG Kx;have af:=ci;obtain⟨⟨r,v,B,C,D,E,F,G,H,I⟩,L⟩:=af;go_wp2_with fail;refine(c3.2 ar st e4 di.out M g h cc _ n c root X a9).mono ?_;rintro e' w6 ⟨ef,ec,bw,N,aU,ab,O,b0,ad,rfl,cz,S6,W⟩;clear r v B C D E F G H I L;have hD:=W.size;have e8:=a6.2.2.2.2;have Ob6:=a6.Cm W ⟨V,V,V,Xo.1⟩ ⟨V,V,V,Xo.2⟩;have it6:=Obj.item (w:=w6) a6 cz (fun b hb=>⟨gB,gO⟩);have R6:=a8.AA (W.block w.heap.size V V V);have O6:=a5.trans (W.mono V);clear a8 ci a9 a5 a6 cz W e8;go_wp2_with fail;refine sG (vA true wP (xS S (f+1) ar x.items.toNat st).1 ef ec bw N aU ab O b0 ad w6 (w2.heap.size+1) w2.heap.size T.heap.size X ([]++opt true tC) ([]++opt true (jT (tI x.kind))) _ _ _ _ _ _ Ob6 it6 fe fe) fun w7 ⟨⟨Q7,q7,r7,Q7',q7',r7',Ob7⟩,KG⟩=> ?_
       exact lW
      ·have hE:(x.kind==12)=false:=rA.2 bv;have gr:decide (x.kind=12)=false:=rI bv;rw[rB bv]at l;have De:=rz l;clear l;go_wp2_with fail;refine(Cl w2).mono ?_;rintro e' T br;have e1:=br.1;subst e1;have bd:=Obj.new br X bq;obtain⟨_,ea,_,_,R⟩:=br;have hA:T.heap.size<=w2.heap.size+2:=V;have hB:w2.heap.size+2<=T.heap.size:=V;clear ea r v B C D E F G H I L;have b8:=a3.below R V;clear a3;have cp:=a7.below R V;have S3:=S1.below R V;have cj:=a4.trans (sN.below (R.mono V));have hQ:=R.size;clear a7 S1 a4;have af:=b8;obtain⟨⟨r,v,B,C,D,E,F,G,H,I⟩,L⟩:=af;have b5:=BC x.kind T S3.zL;go_wp2_with fail;refine tZ b5 ?_;clear b5;go_wp2_with fail;refine sG (yd (tI x.kind) T) fun a1 o=> ?_
       clear r v B C D E F G H I L;have ck:=bd.below o;have cR:=Obj.item (w:=a1) bd (ya a1 (fun _=>False) (tI x.kind)) (fun b hb=>hb.elim);clear bd R;have b9:=b8.below o V;clear b8;have b3:=cp.below o V;have S4:=S3.below o V;have b2:=cj.trans (sN.below (o.mono V));have hR:=o.size;clear cp S3 cj;clear o;go_wp2_with fail;refine sG (vA true tC (jT (tI x.kind)) 4 0 ⟨(tI x.kind).toArray⟩ none 0 0 none 0 0 a1 (w2.heap.size+1) w2.heap.size T.heap.size X [] [] _ _ _ _ _ _ ck cR bA bA) fun M ⟨⟨gi,hI,hK,gk,hJ,hL,a6⟩,KG⟩=> ?_
       clear cR ck;have Kx:Below w2.heap.size a1 M:=KG.below V rV;have ci:=b9.below Kx V;clear b9;have a8:=b3.below Kx V;have a9:=S4.below Kx V;have a5:=b2.trans (sN.below (Kx.mono V));have hT:=Kx.size;clear b3 S4 b2;clear KG Kx;have af:=ci;obtain⟨⟨r,v,B,C,D,E,F,G,H,I⟩,L⟩:=af;go_wp2_with fail;refine(c3.2 ar st e4 di.out M g h cc _ n c root X a9).mono ?_;rintro e' w6 ⟨ef,ec,bw,N,aU,ab,O,b0,ad,rfl,cz,S6,W⟩;clear r v B C D E F G H I L;have hD:=W.size;have e8:=a6.2.2.2.2;have Ob6:=a6.Cm W ⟨V,V,V,Xo.1⟩ ⟨V,V,V,Xo.2⟩;have it6:=Obj.item (w:=w6) a6 cz (fun b hb=>⟨gB,gO⟩);have R6:=a8.AA (W.block w.heap.size V V V);have O6:=a5.trans (W.mono V);clear a8 ci a9 a5 a6 cz W e8;go_wp2_with fail;refine sG (vA true uW (xS S (f+1) ar x.items.toNat st).1 ef ec bw N aU ab O b0 ad w6 (w2.heap.size+1) w2.heap.size T.heap.size X ([]++opt true tC) ([]++opt true (jT (tI x.kind))) _ _ _ _ _ _ Ob6 it6 fe fe) fun w7 ⟨⟨Q7,q7,r7,Q7',q7',r7',Ob7⟩,KG⟩=> ?_
       exact lW
structure MtN(x:Nd):Prop where
 nm:x.name.length<=100000000
 it:D5 x.items
 br:∀b∈x.rX,D5 b
 fl:∀f∈x.fields,D5 f.type
def Eu{k n:Nat}(h:k<n)(d:n<=100000000):D5 (k:Int):=by have a:IntKind.i64.min= -9223372036854775808:=rfl;have b:IntKind.i64.max=9223372036854775807:=rfl;show(decide (IntKind.i64.min<=(k:Int))&&decide ((k:Int)<=IntKind.i64.max))=true;rw[a,b,rY V,rY V];rfl
def RA{w:World}{af:Nat}{Y:afu}{f8:aft}{d4 g4:Nat}{he:Int}{f7:aft}{d3 g3:Nat}{hd:Int}{bj:Nat}{W R:List Nd}{l:List (Int×Int)}(an:Ct w af Y f8 d4 g4 he f7 d3 g3 hd bj W R l)(i k:Nat)(er:i<d4)(es:k<d3)(h0:d4<=100000000)(gW:d3<=100000000)(gn:∀x∈W,MtN x)(gl:∀x∈R,MtN x):Calls Tryz.prog 50 #[sg af,.agg #[.int .i64 (i:Int),.int .i64 (k:Int)]] w (vh w (.bool (Ry W R (IC l) i k))):=by
 have b9:=(afw w).al rV (.cells #[.int .i64 (i:Int),.int .i64 (k:Int)] 113);have d8:=b9.yg;have hr:=b9.s1;have b5:=an.below b9;have hs:=an.bx.CG;have aU:=an.yb;have hn:=an.mp.lt;have hq:=an.ne;obtain⟨r,O,x,S,aa,c1,T,ab,c2,U,ad,a3,A,M,C,gf,en,e3,⟨ch,ci,cj,ck,cp,cr,cs,ct,cv,cx⟩,⟨f4,f5,hf,f6⟩,_,ho,gA,hp,gR⟩:=uY an.rw er;obtain⟨p,N,y,X,a7,a4,Z,a8,a5,a0,a9,a6,B,L,D,gd,em,e4,⟨cy,cz,cA,cE,cR,cS,cW,cZ,d0,d1⟩,⟨d5,d6,e8,e9⟩,_,et,gs,hm,gx⟩:=uY an.rr es;have c3:=gn x (rU e3);have c4:=gl y (rU e4);have ek:Ry W R (IC l) i k=Mp (IC l) x y i k:=by unfold Ry;rw[e3,e4]
 rw[ek];obtain⟨ar,a⟩:=sW (Mp (IC l) x y i k);rw[<-a];have o:=rz a;clear ek e3 e4 a;have H:=(aU r en).1;have F:=(aU p em).1;clear an;go_enter Tryz.func50,Tryz.ntmps50;go_upto_region 1 with fail;generalize w.alloc _=w1 at*;have f0:w.heap.size<w1.heap.size:=V;have I:=(b5.yb r en).1;have G:=(b5.yb p em).1;have go:∀b,Y b->b<w1.heap.size:=fun b hb=>(b5.yb b hb).1
 have hk:(i:Int)<(d4:Int):=V;have hl:(k:Int)<(d3:Int):=V;have gi:=Eu er h0;have gk:=Eu es gW;go_cut [5,6] (fun b1 b2 m=>∃(b6 b7:Nat),b1=sg b6/\b2=sg b7/\(w1.heap.size<=b6/\b6<m.heap.size)/\(w1.heap.size<=b7/\b7<m.heap.size)/\Bx m b6 (nL x S aa c1 T ab c2 U ad a3 A M C)/\Bx m b7 (nL y X a7 a4 Z a8 a5 a0 a9 a6 B L D)/\Below w1.heap.size w1 m);case
  first
   =>
    refine sR (K:=Kb (fun b=>b<w1.heap.size)) (Kb.keeps _) (sA.of [0,1,2,3,4,5,6,7,8,9,10,11,12,13,14,15,16,17] (.fork 18 (sA.of [19,20,21] .nil) 19 (sA.of [18,20,21] .nil))) [18,19,20,21] bm bm bF bm (by intro _ _ d _ _ h;cases d<;>exact h) (fun wd n tj=> ?_);have el:=n;have j:Below w.heap.size w wd:=b9.trans (n.mono V);have ec:=b5.below n;obtain⟨cc,e5,cf,e6,bn, -⟩:=ec.bx.xe;have d9:=d8.below n V;have f2:=d9.c 0 _ rfl;have f3:=d9.c 1 _ rfl;have ht:=n.size;have ch:=j.cl ch H;have cy:=j.cl cy F;have ci:=j.cl ci H;have cz:=j.cl cz F;have cj:=j.cl cj H;have cA:=j.cl cA F;have ck:=j.cl ck H;have cE:=j.cl cE F;have cp:=j.cl cp H;have cR:=j.cl cR F;have cr:=j.cl cr H;have cS:=j.cl cS F;have cs:=j.cl cs H;have cW:=j.cl cW F;have ct:=j.cl ct H;have cZ:=j.cl cZ F;have cv:=j.cl cv H;have d0:=j.cl d0 F;have cx:=j.cl cx H;have d1:=j.cl d1 F;clear n tj ec d9;rw[gf]at cc;rw[gd]at cf;repeat((first|(refine tp rfl rfl rfl bo ?_)|(refine tF rfl rfl rfl ?_)|(refine tA rfl rfl rfl 0 rV _ (by intro w' hb;have hg:=(Kb.cell hb (q:=rN af 0) bl).trans cc;have d5:=(Kb.cell hb (q:=rN af 2) bl).trans cf;have d6:=(Kb.cell hb (q:=rN w.heap.size 0) f0).trans f2;have e8:=(Kb.cell hb (q:=rN w.heap.size 1) f0).trans f3;have e9:=(Kb.cell hb (q:=rN r (O+i*10)) I).trans ch;have hI:=(Kb.cell hb (q:=rN p (N+k*10)) G).trans cy;have hJ:=(Kb.cell hb (q:=rN r (O+i*10+1)) I).trans ci;have hK:=(Kb.cell hb (q:=rN p (N+k*10+1)) G).trans cz;have hL:=(Kb.cell hb (q:=rN r (O+i*10+2)) I).trans cj;have hM:=(Kb.cell hb (q:=rN p (N+k*10+2)) G).trans cA;have hu:=(Kb.cell hb (q:=rN r (O+i*10+3)) I).trans ck;have hv:=(Kb.cell hb (q:=rN p (N+k*10+3)) G).trans cE;have hw:=(Kb.cell hb (q:=rN r (O+i*10+4)) I).trans cp;have hx:=(Kb.cell hb (q:=rN p (N+k*10+4)) G).trans cR;have hy:=(Kb.cell hb (q:=rN r (O+i*10+5)) I).trans cr;have hz:=(Kb.cell hb (q:=rN p (N+k*10+5)) G).trans cS;have hA:=(Kb.cell hb (q:=rN r (O+i*10+6)) I).trans cs;have hB:=(Kb.cell hb (q:=rN p (N+k*10+6)) G).trans cW;have hC:=(Kb.cell hb (q:=rN r (O+i*10+7)) I).trans ct;have hD:=(Kb.cell hb (q:=rN p (N+k*10+7)) G).trans cZ;have hE:=(Kb.cell hb (q:=rN r (O+i*10+8)) I).trans cv;have hF:=(Kb.cell hb (q:=rN p (N+k*10+8)) G).trans d0;have hG:=(Kb.cell hb (q:=rN r (O+i*10+9)) I).trans cx;have hH:=(Kb.cell hb (q:=rN p (N+k*10+9)) G).trans d1;clear hb;go_simp;first|done|with_reducible rfl) ?_));simp only[Act.put,rH,rC,rF])
    clear ch ci cj ck cp cr cs ct cv cx cy cz cA cE cR cS cW cZ d0 d1 cc e5 cf e6 bn f2 f3;refine yr rfl rfl 0 rV (fun b0 e=> ?_) (fun b0 e=> ?_)
    ·go_wp2_with fail;refine e _ _ ((Kb.keeps _).trans (fun _ _=>rfl) (Kb.below bP ((afw wd).al rV _))) ?_;clear e;refine aO ?_;refine se rfl rfl 0 rV (fun b0 e=> ?_);go_wp2_with fail;refine e _ _ (Kb.below (fun b hb=>by simp;omega) ((Below.refl _ (wd.alloc nz)).al rV _)) ?_;clear e;have bp:=(Bx.new wd _ _ _ rfl:Bx (wd.alloc nz) wd.heap.size _);have b3:=bp.below ((Below.refl _ (wd.alloc nz)).al rV nz) (by simp);have b4:=(Bx.new (wd.alloc nz) _ _ (wd.heap.size+1) (by simp):Bx ((wd.alloc nz).alloc nz) (wd.heap.size+1) _);have h1:((wd.alloc nz).alloc nz).heap.size=wd.heap.size+2:=by simp
     have df:Below wd.heap.size wd ((wd.alloc nz).alloc nz):=((afw wd).al rV nz).alloc (by simp) nz;have bw:(wd.alloc nz).heap.size=wd.heap.size+1:=by simp
     try rw[bw]
     clear bp bw;generalize(wd.alloc _).alloc _=v at*;generalize bz:wd.heap.size=g at*;have fc:=rz bz;clear bz;obtain⟨s0,s1,s2,c5,c6,b1,b2,c7,c8,c9,cb⟩:=b3.xX;have a1:sa (g) v.heap.size v ((((((((((v.setCell ⟨g,0,none⟩ (.int .i64 x.kind)).setCell ⟨g,1,none⟩ (.string ⟨x.name.toArray⟩)).setCell ⟨g,2,none⟩ (.slice S aa c1)).setCell ⟨g,3,none⟩ (.slice T ab c2)).setCell ⟨g,4,none⟩ (.slice U ad a3)).setCell ⟨g,5,none⟩ (.bool x.has)).setCell ⟨g,6,none⟩ (.string ⟨x.sL.toArray⟩)).setCell ⟨g,7,none⟩ (.int .i64 x.size)).setCell ⟨g,8,none⟩ (.int .i64 x.items)).setCell ⟨g,9,none⟩ (.slice A M C)):=by repeat' (first|with_reducible exact sa.refl _ _ _|with_reducible refine sa.setAt ?_ _ _)
     have br:Bx ((((((((((v.setCell ⟨g,0,none⟩ (.int .i64 x.kind)).setCell ⟨g,1,none⟩ (.string ⟨x.name.toArray⟩)).setCell ⟨g,2,none⟩ (.slice S aa c1)).setCell ⟨g,3,none⟩ (.slice T ab c2)).setCell ⟨g,4,none⟩ (.slice U ad a3)).setCell ⟨g,5,none⟩ (.bool x.has)).setCell ⟨g,6,none⟩ (.string ⟨x.sL.toArray⟩)).setCell ⟨g,7,none⟩ (.int .i64 x.size)).setCell ⟨g,8,none⟩ (.int .i64 x.items)).setCell ⟨g,9,none⟩ (.slice A M C)) (g) _:=(((((((((b3.set 0 (.int .i64 x.kind)).set 1 (.string ⟨x.name.toArray⟩)).set 2 (.slice S aa c1)).set 3 (.slice T ab c2)).set 4 (.slice U ad a3)).set 5 (.bool x.has)).set 6 (.string ⟨x.sL.toArray⟩)).set 7 (.int .i64 x.size)).set 8 (.int .i64 x.items)).set 9 (.slice A M C);simp only[rC,rF]at br;have bs:=b4.off a1 V V;have h3:=a1.size;refine aO ?_;refine se rfl rfl 0 rV (fun b0 e=> ?_);go_wp2_with fail;refine e _ _ (fun b hb=>a1.block b V V) ?_;clear e s0 s1 s2 c5 c6 b1 b2 c7 c8 c9 cb b3 b4;generalize(((((((((v.setCell _ _).setCell _ _).setCell _ _).setCell _ _).setCell _ _).setCell _ _).setCell _ _).setCell _ _).setCell _ _).setCell _ _=z at*;obtain⟨s0,s1,s2,c5,c6,b1,b2,c7,c8,c9,cb⟩:=bs.xX;have a2:sa (g+1) z.heap.size z ((((((((((z.setCell ⟨g+1,0,none⟩ (.int .i64 y.kind)).setCell ⟨g+1,1,none⟩ (.string ⟨y.name.toArray⟩)).setCell ⟨g+1,2,none⟩ (.slice X a7 a4)).setCell ⟨g+1,3,none⟩ (.slice Z a8 a5)).setCell ⟨g+1,4,none⟩ (.slice a0 a9 a6)).setCell ⟨g+1,5,none⟩ (.bool y.has)).setCell ⟨g+1,6,none⟩ (.string ⟨y.sL.toArray⟩)).setCell ⟨g+1,7,none⟩ (.int .i64 y.size)).setCell ⟨g+1,8,none⟩ (.int .i64 y.items)).setCell ⟨g+1,9,none⟩ (.slice B L D)):=by repeat' (first|with_reducible exact sa.refl _ _ _|with_reducible refine sa.setAt ?_ _ _)
     have bv:Bx ((((((((((z.setCell ⟨g+1,0,none⟩ (.int .i64 y.kind)).setCell ⟨g+1,1,none⟩ (.string ⟨y.name.toArray⟩)).setCell ⟨g+1,2,none⟩ (.slice X a7 a4)).setCell ⟨g+1,3,none⟩ (.slice Z a8 a5)).setCell ⟨g+1,4,none⟩ (.slice a0 a9 a6)).setCell ⟨g+1,5,none⟩ (.bool y.has)).setCell ⟨g+1,6,none⟩ (.string ⟨y.sL.toArray⟩)).setCell ⟨g+1,7,none⟩ (.int .i64 y.size)).setCell ⟨g+1,8,none⟩ (.int .i64 y.items)).setCell ⟨g+1,9,none⟩ (.slice B L D)) (g+1) _:=(((((((((bs.set 0 (.int .i64 y.kind)).set 1 (.string ⟨y.name.toArray⟩)).set 2 (.slice X a7 a4)).set 3 (.slice Z a8 a5)).set 4 (.slice a0 a9 a6)).set 5 (.bool y.has)).set 6 (.string ⟨y.sL.toArray⟩)).set 7 (.int .i64 y.size)).set 8 (.int .i64 y.items)).set 9 (.slice B L D);simp only[rC,rF]at bv;have d7:=br.off a2 V V;have h4:=a2.size;refine aO ?_;refine se rfl rfl 0 rV (fun b0 e=> ?_);go_wp2_with fail;refine e _ _ (fun b hb=>a2.block b V V) ?_;clear e;refine sF ?_;go_wp2_with fail;go_meet;generalize(((((((((z.setCell _ _).setCell _ _).setCell _ _).setCell _ _).setCell _ _).setCell _ _).setCell _ _).setCell _ _).setCell _ _).setCell _ _=e7 at*;have di:Below w1.heap.size w1 e7:=(el.trans (df.mono V)).trans ((a1.below V V).trans (a2.below V V));exact⟨g,g+1,rfl,rfl,⟨V,V⟩,⟨V,V⟩,d7,bv,di⟩
    ·go_wp2_with fail;refine e _ _ ((Kb.keeps _).trans (fun _ _=>rfl) (Kb.below bP ((afw wd).al rV _))) ?_;clear e;refine aO ?_;refine se rfl rfl 0 rV (fun b0 e=> ?_);go_wp2_with fail;refine e _ _ (Kb.below (fun b hb=>by simp;omega) ((Below.refl _ (wd.alloc nz)).al rV _)) ?_;clear e;have bp:=(Bx.new wd _ _ _ rfl:Bx (wd.alloc nz) wd.heap.size _);have b3:=bp.below ((Below.refl _ (wd.alloc nz)).al rV nz) (by simp);have b4:=(Bx.new (wd.alloc nz) _ _ (wd.heap.size+1) (by simp):Bx ((wd.alloc nz).alloc nz) (wd.heap.size+1) _);have h1:((wd.alloc nz).alloc nz).heap.size=wd.heap.size+2:=by simp
     have df:Below wd.heap.size wd ((wd.alloc nz).alloc nz):=((afw wd).al rV nz).alloc (by simp) nz;have bw:(wd.alloc nz).heap.size=wd.heap.size+1:=by simp
     try rw[bw]
     clear bp bw;generalize(wd.alloc _).alloc _=v at*;generalize bz:wd.heap.size=g at*;have fc:=rz bz;clear bz;obtain⟨s0,s1,s2,c5,c6,b1,b2,c7,c8,c9,cb⟩:=b4.xX;have a1:sa (g+1) v.heap.size v ((((((((((v.setCell ⟨g+1,0,none⟩ (.int .i64 x.kind)).setCell ⟨g+1,1,none⟩ (.string ⟨x.name.toArray⟩)).setCell ⟨g+1,2,none⟩ (.slice S aa c1)).setCell ⟨g+1,3,none⟩ (.slice T ab c2)).setCell ⟨g+1,4,none⟩ (.slice U ad a3)).setCell ⟨g+1,5,none⟩ (.bool x.has)).setCell ⟨g+1,6,none⟩ (.string ⟨x.sL.toArray⟩)).setCell ⟨g+1,7,none⟩ (.int .i64 x.size)).setCell ⟨g+1,8,none⟩ (.int .i64 x.items)).setCell ⟨g+1,9,none⟩ (.slice A M C)):=by repeat' (first|with_reducible exact sa.refl _ _ _|with_reducible refine sa.setAt ?_ _ _)
     have br:Bx ((((((((((v.setCell ⟨g+1,0,none⟩ (.int .i64 x.kind)).setCell ⟨g+1,1,none⟩ (.string ⟨x.name.toArray⟩)).setCell ⟨g+1,2,none⟩ (.slice S aa c1)).setCell ⟨g+1,3,none⟩ (.slice T ab c2)).setCell ⟨g+1,4,none⟩ (.slice U ad a3)).setCell ⟨g+1,5,none⟩ (.bool x.has)).setCell ⟨g+1,6,none⟩ (.string ⟨x.sL.toArray⟩)).setCell ⟨g+1,7,none⟩ (.int .i64 x.size)).setCell ⟨g+1,8,none⟩ (.int .i64 x.items)).setCell ⟨g+1,9,none⟩ (.slice A M C)) (g+1) _:=(((((((((b4.set 0 (.int .i64 x.kind)).set 1 (.string ⟨x.name.toArray⟩)).set 2 (.slice S aa c1)).set 3 (.slice T ab c2)).set 4 (.slice U ad a3)).set 5 (.bool x.has)).set 6 (.string ⟨x.sL.toArray⟩)).set 7 (.int .i64 x.size)).set 8 (.int .i64 x.items)).set 9 (.slice A M C);simp only[rC,rF]at br;have bs:=b3.off a1 V V;have h3:=a1.size;refine aO ?_;refine se rfl rfl 0 rV (fun b0 e=> ?_);go_wp2_with fail;refine e _ _ (fun b hb=>a1.block b V V) ?_;clear e s0 s1 s2 c5 c6 b1 b2 c7 c8 c9 cb b3 b4;generalize(((((((((v.setCell _ _).setCell _ _).setCell _ _).setCell _ _).setCell _ _).setCell _ _).setCell _ _).setCell _ _).setCell _ _).setCell _ _=z at*;obtain⟨s0,s1,s2,c5,c6,b1,b2,c7,c8,c9,cb⟩:=bs.xX;have a2:sa (g) z.heap.size z ((((((((((z.setCell ⟨g,0,none⟩ (.int .i64 y.kind)).setCell ⟨g,1,none⟩ (.string ⟨y.name.toArray⟩)).setCell ⟨g,2,none⟩ (.slice X a7 a4)).setCell ⟨g,3,none⟩ (.slice Z a8 a5)).setCell ⟨g,4,none⟩ (.slice a0 a9 a6)).setCell ⟨g,5,none⟩ (.bool y.has)).setCell ⟨g,6,none⟩ (.string ⟨y.sL.toArray⟩)).setCell ⟨g,7,none⟩ (.int .i64 y.size)).setCell ⟨g,8,none⟩ (.int .i64 y.items)).setCell ⟨g,9,none⟩ (.slice B L D)):=by repeat' (first|with_reducible exact sa.refl _ _ _|with_reducible refine sa.setAt ?_ _ _)
     have bv:Bx ((((((((((z.setCell ⟨g,0,none⟩ (.int .i64 y.kind)).setCell ⟨g,1,none⟩ (.string ⟨y.name.toArray⟩)).setCell ⟨g,2,none⟩ (.slice X a7 a4)).setCell ⟨g,3,none⟩ (.slice Z a8 a5)).setCell ⟨g,4,none⟩ (.slice a0 a9 a6)).setCell ⟨g,5,none⟩ (.bool y.has)).setCell ⟨g,6,none⟩ (.string ⟨y.sL.toArray⟩)).setCell ⟨g,7,none⟩ (.int .i64 y.size)).setCell ⟨g,8,none⟩ (.int .i64 y.items)).setCell ⟨g,9,none⟩ (.slice B L D)) (g) _:=(((((((((bs.set 0 (.int .i64 y.kind)).set 1 (.string ⟨y.name.toArray⟩)).set 2 (.slice X a7 a4)).set 3 (.slice Z a8 a5)).set 4 (.slice a0 a9 a6)).set 5 (.bool y.has)).set 6 (.string ⟨y.sL.toArray⟩)).set 7 (.int .i64 y.size)).set 8 (.int .i64 y.items)).set 9 (.slice B L D);simp only[rC,rF]at bv;have d7:=br.off a2 V V;have h4:=a2.size;refine aO ?_;refine se rfl rfl 0 rV (fun b0 e=> ?_);go_wp2_with fail;refine e _ _ (fun b hb=>a2.block b V V) ?_;clear e;refine sF ?_;go_wp2_with fail;go_meet;generalize(((((((((z.setCell _ _).setCell _ _).setCell _ _).setCell _ _).setCell _ _).setCell _ _).setCell _ _).setCell _ _).setCell _ _).setCell _ _=e7 at*;have di:Below w1.heap.size w1 e7:=(el.trans (df.mono V)).trans ((a1.below V V).trans (a2.below V V));exact⟨g+1,g,rfl,rfl,⟨V,V⟩,⟨V,V⟩,d7,bv,di⟩
 case
  rest=>
   obtain⟨m,h2⟩:=sW wc;subst h2;obtain⟨b6,b7,rfl,rfl,e0,e1,f9,fb,bx⟩:=hcut;clear ch ci cj ck cp cr cs ct cv cx cy cz cA cE cR cS cW cZ d0 d1;have h5:=bx.size;have dd:=b5.below bx;have eb:=d8.below bx V;obtain⟨cc,e5,cf,e6,bn, -⟩:=dd.bx.xe;have d2:∀b,Y b->b<m.heap.size:=fun b hb=>rS (go b hb) h5
   have Ac:Below w.heap.size w m:=b9.trans (bx.mono V);have hh:=Row.below f4 Ac (fun b hb=>(aU b hb).1);have ff:=f5.below Ac (fun b hb=>(aU b hb).1);have fi:=Row.below f6 Ac (fun b hb=>(aU b hb).1);have ed:=Row.below d5 Ac (fun b hb=>(aU b hb).1);have fj:=d6.below Ac (fun b hb=>(aU b hb).1);have fl:=Row.below e9 Ac (fun b hb=>(aU b hb).1);have bk:=dd.mp;have bO:af<m.heap.size:=V;clear f4 f5 hf f6 d5 d6 e8 e9 b5 d8 dd b9 bx cc e5 cf e6;obtain⟨fm,fn,ft,fx,fE,fS,g0,ef,eg,g2, -⟩:=f9.xX;obtain⟨g5,dj,g6,g7,g8,g9,ga,eh,ei,gc, -⟩:=fb.xX;by_cases t:x.kind=13
   ·have hS:=M0 98 (enters_of Tryz.func98 bm rfl) #[sg w.heap.size] (fun b=>(b,(k:Int))) x.rX Y A M C af bj l m fi d2 gR bn bO bk (fun b hb=>⟨c3.br b hb,gk⟩) (fun b _ w' e2=>OO b i k w.heap.size w' (eb.below e2 V));have a:ar=x.rX.any fun b=> !l.contains (b,(k:Int)):=by rw[o.out];unfold Mp;rw[rG t];rfl
    rw[<-a]at hS;have h8:(x.kind==13)=true:=tl.2 t;clear a t;exact ql
   have h8:(x.kind==13)=false:=rA.2 t;by_cases E:y.kind=13
   ·have hS:=M0 99 (enters_of Tryz.func99 bm rfl) #[sg w.heap.size] (fun b=>((i:Int),b)) y.rX Y B L D af bj l m fl d2 gx bn bO bk (fun b hb=>⟨gi,c4.br b hb⟩) (fun b _ w' e2=>OP b i k w.heap.size w' (eb.below e2 V));have a:ar=y.rX.any fun b=> !l.contains ((i:Int),b):=by rw[o.out];unfold Mp;rw[rB t,rG E];rfl
    rw[<-a]at hS;have hc:(y.kind==13)=true:=tl.2 E;clear a t E;exact ql
   have hc:(y.kind==13)=false:=rA.2 E;by_cases dp:x.kind<=8
   ·have dx:=fun w1=>JX x.kind y.kind w1
    have a:ar=MM x.kind y.kind:=by rw[o.out];unfold Mp;rw[rB t,rB E,rG dp]
    rw[<-a]at dx;clear a t E;go_wp2_with fail;refine tZ (dx _) ?_;clear dx;exact cK
   by_cases bd:x.kind=y.kind;case
    neg=>
     obtain rfl:ar=false:=by rw[o.out];unfold Mp;rw[rB t,rB E,rB dp,rG bd]
     have ha:(x.kind !=y.kind)=true:=by simpa using bd
     clear o t E bd;go_wp2_with fail;go_ret;exact⟨rfl,Ac⟩
   have ha:(x.kind !=y.kind)=false:=by simpa using bd
   have az:=fun w1=>vg x.kind w1
   have a:ar=if sr x.kind=false then !IC l x.items y.items else if x.kind=9 then X7 (IC l) x y else MF x y&&decide (x.size=y.size):=by rw[o.out];unfold Mp;rw[rB t,rB E,rB dp,rB (by simpa using bd)]
   have Lv:=rz a;clear a o t E bd;cases be:sr x.kind with
   |false=>
    rw[be]at az;have a:=Lv.out;rw[be,rG rfl]at a;have o:=rz a;clear be a Lv;go_wp2_with fail;refine tZ (az _) ?_;clear az;go_upto_region 11 with fail;refine sR (K:=Kb (fun b=>b<m.heap.size)) (Kb.keeps _) (sA.of [0,1,2,3,4,5,6,7,8,9,10,11] .nil) [] bm bm bF bm bt (fun wd n tj=> ?_);have h6:=n.cl bn bO;have g1:=n.cl eg e0.2;have gb:=n.cl ei e1.2;have h7:=bk.keep (n.block bj bk.lt);have gz:=bk.lt;have gr:=Ac.trans (n.mono V);clear n tj;repeat((first|(refine tp rfl rfl rfl bo ?_)|(refine tF rfl rfl rfl ?_)|(refine tA rfl rfl rfl 0 rV _ (by intro w' hb;have hg:=(Kb.cell hb (q:=rN af 4) bO).trans h6;have d5:=(Kb.cell hb (q:=rN b6 8) e0.2).trans g1;have d6:=(Kb.cell hb (q:=rN b7 8) e1.2).trans gb;have e8:=(h7.keep (hb bj gz)).look c3.it c4.it;clear hb;go_simp;first|done|with_reducible rfl) ?_));simp only[Act.put,rH,rC,rF])
    refine sF ?_;go_wp2_with fail;go_ret;exact⟨by rw[o.out];simp[IC],gr⟩
   |true=>
    rw[be]at az;have a:=Lv.out;rw[be,rB bA]at a;clear be Lv;by_cases b8:x.kind=9
    ·have h9:(x.kind==9)=true:=tl.2 b8;rw[rG b8]at a;clear b8;have dz:=OZ x y S aa c1 T ab c2 U ad a3 A M C X a7 a4 Z a8 a5 a0 a9 a6 B L D af bj l m Y d2 c3.nm c4.nm ff fj ed gA gs et bn bO bk c3.fl c4.fl;rw[<-a]at dz;clear a;go_wp2_with fail;refine tZ (az _) ?_;clear az;go_wp2_with fail;refine sG dz fun w3 vb=> ?_
     clear dz;exact nY
    ·have h9:(x.kind==9)=false:=rA.2 b8;rw[rB b8]at a;have o:=rz a;clear b8 a;have ds:=I6 x y S aa c1 T ab c2 U ad a3 A M C X a7 a4 Z a8 a5 a0 a9 a6 B L D m Y d2 c3.nm c4.nm ed et;obtain⟨ea,dr⟩:=sW (MF x y);rw[<-dr]at ds;have Lv:=rz (show ar=(ea&&decide (x.size=y.size))from by rw[o.out,dr]);clear dr o;go_wp2_with fail;refine tZ (az _) ?_;clear az;go_wp2_with fail;refine sG ds fun w3 vb=> ?_
     clear ds;have hi:=vb.cl ef e0.2;have hj:=vb.cl eh e1.2;have f1:=Ac.trans (vb.mono V);clear fm fn ft fx fE fS g0 ef eg g2 g5 dj g6 g7 g8 g9 ga eh ei gc;cases ea with
     |false=>obtain rfl:ar=false:=ls;clear Lv;go_wp2_with fail;go_ret;exact⟨rfl,f1⟩
     |true=>
      have dj:ar=(x.size==y.size):=by rw[Lv.out];by_cases h:x.size=y.size<;>simp[h]
      clear Lv;subst dj;go_wp2_with fail;go_ret;exact⟨rfl,f1⟩
structure GoF(f:Fd):Prop where
 name:f.name.length<=1000000
 alias:∀a∈f.aliases,a.length<=1000000
 sL:yF f.sL
structure EH(x:Nd):Prop where
 name:x.name.length<=1000000
 alias:∀a∈x.aliases,a.length<=1000000
 fields:∀f∈x.fields,GoF f
 symbols:∀a∈x.symbols,a.length<=1000000
 sL:x.sL.length<=1000000
def aaK:∀(N:Nat)(j:J),SizeOf.sizeOf j<=N->yF j->LI j:=by
 intro N;induction N with
 |zero=>intro j h;cases j;simp at h
 |succ N e=>
  intro j hj h;cases h with
  |mk k i a b g d=>refine .mk a b (fun x hx=>e x ?_ (d x hx));exact jd
def yF.smi{j:J}(h:yF j):Ly j:=⟨h.small,aaK _ j rV h⟩
def EH.sm{x:Nd}(h:EH x):PH x:=⟨by have:=h.name;omega,fun a b=>by have:=h.alias a b;omega,fun f d=>⟨by have:=(h.fields f d).name;omega,fun a b=>by have:=(h.fields f d).alias a b;omega,(h.fields f d).sL.small⟩,fun a b=>by have:=h.symbols a b;omega,by have:=h.sL;omega⟩
def yF.Yn{j:J}(h:yF j):j.text.length<=1000000:=by cases h with|mk a i b d e g=>exact a
def yF.item{j x:J}(h:yF j)(b:x∈j.items):yF x:=by cases h with|mk k i d e g a=>exact a x b
def GL:yF J.zero:=Lo 0 0 [] bA V V
def yF.get{j:J}(h:yF j)(key:afs):yF (getD j key):=by
 unfold getD;cases a:uw j key with
 |none=>exact GL
 |some x=>
  unfold uw at a;split at a;·exact h.item (rU a)
  ·cases a
def adn(k:Int):EH {CH with kind:=k}:=⟨ee,ee,ee,ee,ee⟩
def Cg{n:Nd}(h:EH n)(b:List Hd)(e:Int):∀x∈(wi n b e).2.1,EH x:=fun x a=>
 by
  unfold wi at a;split at a;·rw[sJ.1 a];exact h
  ·cases a
def Hv(s ar:afs)(b:List Hd)(e:Int):∀x∈(zX s ar b e).2.1,EH x:=fun x a=>
 by
  unfold zX at a;split at a;·exact Cg (adn _) _ _ x a
  ·cases a
def RI{a s n:afs}(h:vT a s=some n):n.length<=100:=by
 unfold vT at h;split at h;·cases h
 ·split at h;·rename_i b;injection h with h;subst h;simp only[vL,rO,sd]at b;exact b.1
  ·cases h
def Qj{a s:afs}:(Gz (vT a s)).length<=100:=by
 cases h:vT a s with
 |none=>simp[Gz]
 |some n=>exact RI h
def XT{n s a:afs}{g:Bool}:(Gz (yW n s g a)).length<=100:=by unfold yW;split<;>exact Qj
def DO{x:J}(h:yF x)(e:Int):∀s∈(yq x e).1,s.length<=1000000:=fun s a=>by obtain⟨y,b,rfl⟩:=ti.1 a;exact(h.item b).Yn
def El{full:afs->afs×Bool}(b:∀s,s.length<=1000000->(full s).1.length<=1000000){j:J}(h:yF j)(e:Int):∀s∈(xC full j e).1,s.length<=1000000:=fun s a=>
 by
  unfold xC at a;split at a;·obtain⟨y,d,rfl⟩:=ti.1 a;exact b y (DO (h.get _) _ y d)
  ·cases a
def Fc{j:J}(h:yF j)(k:Int)(ar:afs)(b:List Hd)(e:Int):EH (zJ j k ar b e).1:=⟨by have:=XT (n:=(xE j vi e).1) (s:=(if has j uM=true then xE j uM (xE j vi e).2 else([],(xE j vi e).2)).1) (g:=has j uM) (a:=ar);exact sn this V,El (fun s _=>sn Qj V) h _,by simp[zJ,CH],by simp[zJ,CH],by simp[zJ,CH]⟩
def Oo{j:J}(h:yF j)(l:List Fd)(e:Int):GoF (DK j l e).1:=⟨(h.get _).Yn,El (fun s a=>a) h _,h.get _⟩
def Ml{nd:J->List Hd->Int->Bn}(a:List Hd):∀(l:List J),(∀j∈l,∀a e,∀x∈(nd j a e).2.1,EH x)->∀(d:List Int)(new:List Nd)(e:Int),(∀x∈new,EH x)->∀x∈(L4 nd a l d new e).2.2.1,EH x
 | [],_,_,_,_,b=>b
 |j::r,i,d,new,e,b=>
 by
  have g:∀x∈new++(nd j (a++new.map td) e).2.1,EH x:=fun x k=>
   by
    rcases sI.1 k with h|h;·exact b x h
    ·exact i j bA _ _ x h
  unfold L4;split;·exact Ml a r (fun j hj=>i j jU) _ _ _ g
  ·exact g
def Hu{nd:J->List Hd->Int->Bn}(a:List Hd):∀(l:List J),(∀j∈l,yF j)->(∀j,yF j->∀a e,∀x∈(nd j a e).2.1,EH x)->∀(fs:List Fd)(new:List Nd)(e:Int),(∀f∈fs,GoF f)->(∀x∈new,EH x)->(∀f∈(L2 nd a l fs new e).2.1,GoF f)/\∀x∈(L2 nd a l fs new e).2.2.1,EH x
 | [],_,_,_,_,_,b,d=>⟨b,d⟩
 |x::r,k,i,fs,new,e,b,d=>
 by
  have n:=k x bA;have g:=Oo n fs e;have m:∀j∈r,yF j:=fun j hj=>k j jU
  unfold L2;split
  ·simp only;split
   ·refine Hu a r m i _ _ _ (fun f h=> ?_) (fun y h=> ?_)
    ·rcases sI.1 h with h|h;·exact b f h
     ·rw[sJ.1 h];exact⟨g.name,g.alias,g.sL⟩
    ·rcases sI.1 h with h|h;·exact d y h
     ·exact i _ (n.get _) _ _ y h
   ·refine Hu a r m i _ _ _ (fun f h=> ?_) d;rcases sI.1 h with h|h;·exact b f h
    ·rw[sJ.1 h];exact g
  ·exact⟨b,d⟩
def Jm:∀(F:Nat)(j:J),yF j->∀(ar:afs)(d:List Hd)(e:Int),∀x∈(uf F j ar d e).2.1,EH x
 |0,_,_,_,_,_,x,a=>by cases a
 |F+1,j,g,ar,d,e,x,a=>
 by
  have l:=Jm F;unfold uf at a;split at a
  ·split at a;·exact Hv _ _ _ _ x a
   ·split at a
    ·unfold Bl at a;split at a
     ·rcases sD.1 a with rfl|a;·exact oT
      ·exact Ml _ _ (fun y i=>l y (g.item i) ar) _ _ _ bA x a
     ·cases a
    ·split at a
     ·unfold yi at a;simp only at a;have m:∀k key,x∈(Cu (fun j=>uf F j ar) j k key d 0).2.1->EH x:=fun k key h=>
       by
        unfold Cu at h;split at h
        ·rcases sD.1 h with rfl|h;·exact oT
         ·exact l _ (g.get _) _ _ _ x h
        ·cases h
      split at a
      ·split at a;·exact m _ _ a
       split at a;·exact m _ _ a
       split at a
       ·have b:=Fc g ((wJ (xE j tC 0).1:Nat):Int) ar d 0;generalize zJ j _ ar d 0=H at a b;unfold Ad at a;simp only at a;split at a
        ·have hb:=Hu (nd:=fun j=>uf F j (sO H.1.name)) (d++[td H.1]) (getD j ui).items (fun y i=>(g.get _).item i) (fun y i d e=>l y i _ d e) [] [] 0 bA bA;rcases sD.1 a with rfl|a;·exact⟨b.name,b.alias,hb.1,b.symbols,b.sL⟩
         ·exact hb.2 x a
        ·cases a
       split at a
       ·have b:=Fc g ((wJ (xE j tC 0).1:Nat):Int) ar d 0;generalize zJ j _ ar d 0=H at a b;unfold FL at a;simp only at a;split at a;·refine Cg ?_ _ _ x a;exact⟨b.name,b.alias,b.fields,DO (g.get tY) H.2,(g.get sS).Yn⟩
        ·refine Cg ?_ _ _ x a;exact⟨b.name,b.alias,b.fields,DO (g.get tY) H.2,b.sL⟩
       split at a;·have b:=Fc g ((wJ (xE j tC 0).1:Nat):Int) ar d 0;generalize zJ j _ ar d 0=H at a b;unfold G5 at a;refine Cg ?_ _ _ x a;exact⟨b.name,b.alias,b.fields,b.symbols,b.sL⟩
       ·exact Hv _ _ _ _ x a
      ·cases a
     ·cases a
  ·cases a
def AK(S:List Nd):J×Sh:=xS S 34 [] 0 (List.replicate S.length false,false)
def zQ(S:List Nd)(root:Int):Int:=if ur S root=true then(if(AK S).2.2=true then 31 else 0)else 2
def uZ(S:List Nd)(root:Int):J:=if zQ S root=0 then(AK S).1 else J.zero
def WW(S:List Nd)(root:Int)(w:World)(e:Ending)(w':World):Prop:=∃(k i:Int)(t:ByteArray)(a:aft)(j g:Nat)(d:aft)(l h:Nat),e=.returned (.tuple #[jA k i t a j g d l h,.int .i64 (zQ S root)])/\uq w' (fun b=>w.heap.size<=b/\b<w'.heap.size) (jv k i t a j g d l h) (uZ S root)/\Below w.heap.size w w'
def Mw(w:World)(X:afu):uq w X (jv 0 0 ⟨#[]⟩ none 0 0 none 0 0) J.zero:=.mk (Row.nil _ _ _ _) rfl (fun i h=>absurd h bA) (Row.nil _ _ _ _) rV rV V V
abbrev YB(lo a h:Nat)(b:Nat):Prop:=lo<=b/\b<a/\b≠h
def TI(S:List Nd)(root:Int)(w:World)(X:afu)(A:aft)(n c:Nat)(Z:tJ w X A n S)(hX:∀b,X b->b<w.heap.size)(C:n<=100000000)(I:uI w)(an:∀x∈S,PH x):Calls Tryz.prog 28 #[.agg #[.slice A n c,.int .i64 root]] w (WW S root w):=by
 have HL:=rz Z.len;have M:=((afw w).al rV (sC A n c root)).alloc bA (jZ);have aU:((w.alloc (sC A n c root)).alloc (jZ)).cell? (rN w.heap.size 0)=some (.slice A n c):=bi;have b0:((w.alloc (sC A n c root)).alloc (jZ)).cell? (rN w.heap.size 1)=some (.int .i64 root):=bi;have a8:=vW.new (w.alloc (sC A n c root)) 0 0 ⟨#[]⟩ none 0 0 none 0 0 (w.heap.size+1) bA;have b7:=M.s2;have bk:=I.two;go_enter Tryz.func28,Tryz.ntmps28;go_upto_region 1 with fail;generalize(w.alloc _).alloc _=w1 at*;have bp:w.heap.size+2<=w1.heap.size:=V;clear b7;have b4:∀b,X b->b<w1.heap.size:=fun b hb=>bC
 have af:=yp S root w1 X A n c (Z.below M hX) b4 C (I.below M) an;go_wp2_with fail;refine sG af fun a1 z=> ?_
 clear af;have a4:=M.trans (z.mono (B':=w.heap.size) V);have b1:=z.cl aU V;have b2:=z.cl b0 V;have a2:=a8.below z V;have br:=z.size;clear aU b0 M z a8;cases L:ur S root with
 |false=>
  have a5:zQ S root=2:=by unfold zQ;rw[L];rfl
  have hb:uZ S root=J.zero:=by unfold uZ;rw[a5];rfl
  have HE:=rz a5;have b3:=rz hb;clear L a5 hb Z an;obtain⟨⟨u0,u1,u2,u3,u4⟩,u5⟩:=a2;go_wp2_with fail;refine sc (A9 (te:=.int .i64 2) (k:=0) (i:=0) (t:=⟨#[]⟩) (A:=none) (n:=0) (c:=0) (A':=none) (n':=0) (c':=0) rfl rfl rfl ⟨bi,bi,bi,bi,bi⟩) rfl ?_;have yG:sa (w.heap.size+1) a1.heap.size a1 (((((a1.setCell ⟨w.heap.size+1,0,none⟩ (.int .i64 0)).setCell ⟨w.heap.size+1,1,none⟩ (.int .i64 0)).setCell ⟨w.heap.size+1,2,none⟩ (.string ⟨#[]⟩)).setCell ⟨w.heap.size+1,3,none⟩ (.slice none 0 0)).setCell ⟨w.heap.size+1,4,none⟩ (.slice none 0 0)):=(((((sa.refl _ _ _).setAt 0 _).setAt 1 _).setAt 2 _).setAt 3 _).setAt 4 _;have ze:Below w.heap.size a1 _:=yG.below V V;rw[WW,b3.out];exact⟨0,0,⟨#[]⟩,none,0,0,none,0,0,by rw[HE.out],Mw _ _,a4.trans ze⟩
 |true=>
  obtain⟨ok,b6,az⟩:=BT L;subst b6;have ar:=Yl ok 33 0 _ az;have bn:=H0 n C;have b5:=ok.le;rw[HL.out]at b5;have HR:=rz L;have HC:=rz ar;clear az L ar;go_upto_region 3 with fail;refine Dq (K:=Kb (fun b=>b=w.heap.size)) (Kp:=Kb (fun b=>b=w.heap.size)) (Kb.keeps _) (Kb.keeps _) (sA.of [0,2,3,4] (.fork 1 (sA.of [5,6,7] .nil) 5 (sA.of [1,6,7] .nil))) 8 (sA.of [] .nil) [1,5,7] [] [0,3] bm bm bF bm bt (fun wd R tj=> ?_);have a3:=R.cl b1 V;have G:=R.cl b2 V;have W:=a2.below R V;have B:=a4.sY V R;have bz:w.heap.size+2<=wd.heap.size:=V;have a0:=Z.below B hX;have ab:=I.below B;clear R tj b1 b2 a2 a4;repeat((first|(refine Gq rfl rfl rfl rfl rfl bo ?_)|(refine Gs rfl rfl rfl rfl rfl ?_)|(refine Gr rfl rfl rfl rfl 0 rV _ bJ ?_)|(refine B9 rfl rfl rfl rfl rfl _ (by intro w' hb;have c5:=(Kb.cell hb (q:=rN w.heap.size 0) (by simp)).trans a3;have c6:=(Kb.cell hb (q:=rN w.heap.size 1) (by simp)).trans G;clear hb;go_simp;first|done|with_reducible rfl) ?_));simp only[Act.put,rH,rC,rF])
  refine Kk rfl rfl (fun Q1 tv=> ?_) (fun Q1 tv=> ?_)
  ·go_wp2_with fail;refine(D4 S 0 wd X A n c a0 bq C).mono ?_;rintro e' e ⟨g,m,rfl,O,p⟩;go_wp2_with fail;refine tv _ _ (Kb.below bP p) (Kb.below bP p) ?_;clear tv;have T:=O.Ft;have E:=W.below p V;have a9:=p.cl G V;have bO:=p.size;have ad:=B.trans (p.mono V);refine aJ ?_;refine zt rfl rfl 0 rV (fun Q1 tv=> ?_);go_wp2_with fail;have v:=(afw e).al rV (.cells (madeCells #[.bool false] n) 4);have D:=KR e n e.heap.size rfl;have b9:=v.s1;refine tv _ _ (Kb.below bP v) (Kb.below bP v) ?_;clear tv;have U:=T.keep (w':=e.alloc (.cells (madeCells #[.bool false] n) 4)) (Y:=YB wd.heap.size (e.heap.size+1) e.heap.size) (fun q hq=>v.cell hq.2) (fun b hb=>⟨hb.1,by have:=hb.2;omega,by have:=hb.2;omega⟩);have F:=E.below v V;have H:=v.cl a9 V;have N:=ad.trans (v.mono (B':=w.heap.size) V);clear v T E a9 ad p B a0 ab W a3 G O;generalize e.alloc _=a at*;have bw:a.heap.size<=e.heap.size+1:=V;have bx:e.heap.size+1<=a.heap.size:=V;clear b9;refine aJ ?_;refine zt rfl rfl 0 rV (fun Q1 tv=> ?_);go_wp2_with fail;have l:=(afw a).al rV (.cells #[.slice g n m,.int .i64 0,.slice (some ⟨e.heap.size,0,none⟩) n n,.bool false] 133);have c0:(a.alloc (.cells #[.slice g n m,.int .i64 0,.slice (some ⟨e.heap.size,0,none⟩) n n,.bool false] 133)).cell? (rN a.heap.size 0)=some (.slice g n m):=bi;have c1:(a.alloc (.cells #[.slice g n m,.int .i64 0,.slice (some ⟨e.heap.size,0,none⟩) n n,.bool false] 133)).cell? (rN a.heap.size 1)=some (.int .i64 0):=bi;have c2:(a.alloc (.cells #[.slice g n m,.int .i64 0,.slice (some ⟨e.heap.size,0,none⟩) n n,.bool false] 133)).cell? (rN a.heap.size 2)=some (.slice (some ⟨e.heap.size,0,none⟩) n n):=bi;have c3:(a.alloc (.cells #[.slice g n m,.int .i64 0,.slice (some ⟨e.heap.size,0,none⟩) n n,.bool false] 133)).cell? (rN a.heap.size 3)=some (.bool false):=bi;have cz:∀j,(a.alloc (.cells #[.slice g n m,.int .i64 0,.slice (some ⟨e.heap.size,0,none⟩) n n,.bool false] 133)).frozen? (rN a.heap.size j)=false:=fun j=>bi
   have a6:=l.s1;refine tv _ _ (Kb.below bP l) (Kb.below bP l) ?_;clear tv;have hr5:=U.below l (fun b hb=>gL);have M5:=D.keep (l.block e.heap.size V);have R5:=F.below l V;have e5:=l.cl H V;have Cv:=N.trans (l.mono (B':=w.heap.size) V);have hG5:=I.below Cv;clear U D F H N l;generalize a.alloc _=o at*;have bd:o.heap.size<=a.heap.size+1:=V;have be:a.heap.size+1<=o.heap.size:=V;clear a6;have S5:As o a.heap.size (e.heap.size) o.heap.size g n m 0 S (YB wd.heap.size (e.heap.size+1) e.heap.size) (List.replicate n false,false):=⟨c0,c1,c2,c3,cz,M5,yJ,hr5,fun b hb=>⟨gL,gL,hb.2.2⟩,hG5,⟨V,V,V,V,V,rZ _⟩,V⟩;have Xw:Met S 0 (List.replicate n false):=⟨io,fun i x bj C=>fu⟩;have FO:=HC.out.2 [] (List.replicate n false,false) bA Xw o a.heap.size (e.heap.size) o.heap.size g n m 0 (YB wd.heap.size (e.heap.size+1) e.heap.size) S5;exact lJ
  ·go_wp2_with fail;have r:=(afw wd).al rV (.cells (madeCells #[.bool false] n) 4);have a7:=KR wd n wd.heap.size rfl;have b8:=r.s1;refine tv _ _ (Kb.below bP r) (Kb.below bP r) ?_;clear tv;have T:=a0.below r bq;have E:=W.below r V;have aa:=r.cl G V;have p:=B.trans (r.mono (B':=w.heap.size) V);clear r B a0 ab W a3 G;generalize wd.alloc _=e at*;have bs:e.heap.size<=wd.heap.size+1:=V;have bv:wd.heap.size+1<=e.heap.size:=V;clear b8;refine aJ ?_;refine zt rfl rfl 0 rV (fun Q1 tv=> ?_);go_wp2_with fail;refine(D4 S 0 e X A n c T bq C).mono ?_;rintro e' a ⟨g,m,rfl,O,y⟩;go_wp2_with fail;refine tv _ _ (Kb.below bP y) (Kb.below bP y) ?_;clear tv;have c4:=y.size;have D:=a7.keep (y.block wd.heap.size V);have U:=O.Ft.keep (w':=a) (Y:=YB e.heap.size a.heap.size wd.heap.size) (fun _ _=>rfl) (fun b hb=>⟨hb.1,hb.2,by have:=hb.1;omega⟩);have F:=E.below y V;have H:=y.cl aa V;have N:=p.trans (y.mono (B':=w.heap.size) V);clear a7 T E aa p y O;refine aJ ?_;refine zt rfl rfl 0 rV (fun Q1 tv=> ?_);go_wp2_with fail;have l:=(afw a).al rV (.cells #[.slice g n m,.int .i64 0,.slice (some ⟨wd.heap.size,0,none⟩) n n,.bool false] 133);have c0:(a.alloc (.cells #[.slice g n m,.int .i64 0,.slice (some ⟨wd.heap.size,0,none⟩) n n,.bool false] 133)).cell? (rN a.heap.size 0)=some (.slice g n m):=bi;have c1:(a.alloc (.cells #[.slice g n m,.int .i64 0,.slice (some ⟨wd.heap.size,0,none⟩) n n,.bool false] 133)).cell? (rN a.heap.size 1)=some (.int .i64 0):=bi;have c2:(a.alloc (.cells #[.slice g n m,.int .i64 0,.slice (some ⟨wd.heap.size,0,none⟩) n n,.bool false] 133)).cell? (rN a.heap.size 2)=some (.slice (some ⟨wd.heap.size,0,none⟩) n n):=bi;have c3:(a.alloc (.cells #[.slice g n m,.int .i64 0,.slice (some ⟨wd.heap.size,0,none⟩) n n,.bool false] 133)).cell? (rN a.heap.size 3)=some (.bool false):=bi;have cz:∀j,(a.alloc (.cells #[.slice g n m,.int .i64 0,.slice (some ⟨wd.heap.size,0,none⟩) n n,.bool false] 133)).frozen? (rN a.heap.size j)=false:=fun j=>bi
   have a6:=l.s1;refine tv _ _ (Kb.below bP l) (Kb.below bP l) ?_;clear tv;have hr5:=U.below l (fun b hb=>gL);have M5:=D.keep (l.block wd.heap.size V);have R5:=F.below l V;have e5:=l.cl H V;have Cv:=N.trans (l.mono (B':=w.heap.size) V);have hG5:=I.below Cv;clear U D F H N l;generalize a.alloc _=o at*;have bd:o.heap.size<=a.heap.size+1:=V;have be:a.heap.size+1<=o.heap.size:=V;clear a6;have S5:As o a.heap.size (wd.heap.size) o.heap.size g n m 0 S (YB e.heap.size a.heap.size wd.heap.size) (List.replicate n false,false):=⟨c0,c1,c2,c3,cz,M5,yJ,hr5,fun b hb=>⟨gL,gL,hb.2.2⟩,hG5,⟨V,V,V,V,V,rZ _⟩,V⟩;have Xw:Met S 0 (List.replicate n false):=⟨io,fun i x bj C=>fu⟩;have FO:=HC.out.2 [] (List.replicate n false,false) bA Xw o a.heap.size (wd.heap.size) o.heap.size g n m 0 (YB e.heap.size a.heap.size wd.heap.size) S5;exact lJ
def zR(S:List Nd)(root:Int):Except Int afs:=if zQ S root=0 then(if 32<um (uZ S root)then .error 21 else zo (uZ S root))else .error (zQ S root)
def ET(S:List Nd)(root:Int)(af:tS (uZ S root))(ar:ue (uZ S root) 0=true->yF (uZ S root))(a5:um (uZ S root)<=1000000)(w:World)(X:afu)(A:aft)(n c:Nat)(aa:tJ w X A n S)(hX:∀b,X b->b<w.heap.size)(a8:n<=100000000)(a0:uI w)(ad:∀x∈S,PH x):Calls Tryz.prog 8 #[.agg #[.slice A n c,.int .i64 root]] w (Tu w (zR S root)):=by
 obtain⟨R,a⟩:=sW (zR S root);rw[<-a];have G:=rz a;clear a;have z:=(afw w).al rV (sC A n c root);have bp:(w.alloc (sC A n c root)).cell? (rN w.heap.size 0)=some (.slice A n c):=bi;have br:(w.alloc (sC A n c root)).cell? (rN w.heap.size 1)=some (.int .i64 root):=bi;have b7:=z.s1;go_enter Tryz.func8,Tryz.ntmps8;go_upto_region 1 with fail;generalize w.alloc _=w1 at*;have b8:w1.heap.size<=w.heap.size+1:=V;have b9:w.heap.size+1<=w1.heap.size:=V;have an:=TI S root w1 X A n c (aa.below z hX) bq a8 (a0.below z) ad;go_wp2_with fail;refine an.mono ?_;rintro e' d ⟨p,o,v,g,r,j,i,t,k,rfl,a6,K⟩;have bk:=K.size;have a2:=z.trans (K.mono (B':=w.heap.size) V);have C:=(afw d).al rV (jC p o v g r j i t k);have W:=vW.new d p o v g r j i t k d.heap.size rfl;have bd:=C.s1;have Q:=a6.keep (w':=d.alloc (jC p o v g r j i t k)) (Y:=fun b=>b<d.heap.size) (fun q T=>C.cell T.2) (fun b hb=>hb.2);have L:=a2.trans (C.mono (B':=w.heap.size) V);go_upto_region 2 with fail;generalize d.alloc _=E at*;have be:E.heap.size<=d.heap.size+1:=V;have bj:d.heap.size+1<=E.heap.size:=V;obtain⟨⟨aU,b0,b1,b2,b3⟩,bs⟩:=W;obtain⟨y,D⟩:=sW (zQ S root);rw[<-D];have F:=rz D;clear D;by_cases m:y=0
 ·have a:R=if 32<um (uZ S root)then .error 21 else zo (uZ S root):=by rw[G.out];unfold zR;rw[<-F.out,rG m]
  have H:=rz a;subst m;clear a;have a4:=Te _ _ rV a5 E (fun b=>b<d.heap.size) p o v g r j i t k Q bP;go_wp2_with fail;refine sG a4 fun U e=> ?_
  have bn:=e.size;have bv:=e.cl aU V;have bw:=e.cl b0 V;have bx:=e.cl b1 V;have bz:=e.cl b2 V;have bO:=e.cl b3 V;have a7:=Q.keep (w':=U) (Y:=fun b=>b<d.heap.size) (fun q T=>e.cell V) ug;have M:=L.trans (e.mono (B':=w.heap.size) V);have a9:=QX (uZ S root) af ar U (fun b=>b<d.heap.size) p o v g r j i t k a7 bP;generalize zo (uZ S root)=az at*;generalize um (uZ S root)=I at*;by_cases O:32<I
  ·have a:R=.error 21:=by rw[H.out,rG O]
   subst a;go_wp2_with fail;go_ret2;exact⟨M,rfl⟩
  ·have a:R=az:=by rw[H.out,rB O]
   have b6:I<=32:=V;subst a;go_wp2_with fail;refine a9.mono ?_;rintro e' c3 ⟨a1,B⟩;have N:=M.trans (a1.mono (B':=w.heap.size) V);cases R with
   |error x=>simp only at B;subst B;go_wp2_with fail;go_ret2;exact⟨N,rfl⟩
   |ok l=>simp only at B;obtain⟨Z,c',rfl,a3,ab⟩:=B;go_wp2_with fail;go_ret2;exact⟨N,Z,c',rfl,a3,ab⟩
 ·have a:R=.error y:=by rw[G.out];unfold zR;rw[<-F.out,rB m]
  have b4:(y==0)=false:=rA.2 m;have b5:decide (y=0)=false:=rI m;subst a;go_wp2_with fail;go_ret2;exact⟨L,rfl⟩
