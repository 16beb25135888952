import Derived.Test.YtccjlcadbpinfaaGreatDoorX13
import Derived.Test.YtccjlcadbpinfaaGreatDoorX14
set_option linter.all false
set_option maxRecDepth 100000
set_option maxHeartbeats 16000000
namespace Go.Proofs.YtccjlcadbpinfaaGreatDoor.Tp
open ChangeShapes WideShapes ChangeAt RowKit
open Num Mem Can
def yp(S:List Nd)(root:Int)(w:World)(X:afu)(A:aft)(n c:Nat)(bd:tJ w X A n S)(hX:∀b,X b->b<w.heap.size)(a2:n<=100000000)(aU:uI w)(dp:∀x∈S,PH x):Calls Tryz.prog 31 #[.agg #[.slice A n c,.int .i64 root]] w (vh w (.bool (ur S root))):=by
 have d4:=bd.len;obtain⟨R,r⟩:=sW (ur S root);rw[<-r];unfold ur at r;have Y:=rz r;have HL:=rz d4;clear r d4;have Z:=(afw w).al rV (sC A n c root);have dx:(w.alloc (sC A n c root)).cell? (rN w.heap.size 0)=some (.slice A n c):=bi;have dz:(w.alloc (sC A n c root)).cell? (rN w.heap.size 1)=some (.int .i64 root):=bi;have dr:=Z.l1;go_enter Tryz.func31,Tryz.ntmps31;go_upto_region 1 with fail;generalize w.alloc _=w1 at*;have dd:=FV S root w1 X A n c (bd.below Z hX) bq a2;go_wp2_with fail;refine sG dd fun l I=> ?_
 clear dd;have e8:=I.cl dx dr;have e9:=I.cl dz dr;have Ac:=Z.sY V I;have gi:=I.size;clear dx dz Z I;cases H:xH S root with
 |false=>
  obtain rfl:R=false:=by rw[Y.out,H];rfl
  clear Y H;exact cK
 |true=>
  have ho:=DR H;rw[HL.out]at ho;have d3:=yV (S:=S) kU;have d2:=BR (S:=S) kU;rw[HL.out]at d3 d2;have r:=Y.out;rw[H,sk,HL.out]at r;have c3:=rz r;have fm:=Qh n a2;have df:=bd.below Ac hX;have cx:=aU.below Ac;clear r Y H ho;go_upto_region 5 with fail;have B:=(afw l).al rV (.cells (madeCells #[.int .i64 0] n) 3);have c4:=UN l n l.heap.size rfl;have gk:=B.s1;have be:=df.below B bq;have b3:=Ac.trans (B.mono (B':=w.heap.size) V);have g8:=cx.below B;have N:=B.cl e8 V;have O:=B.cl e9 V;clear e8 e9 fm B df cx;generalize l.alloc _=o at*;have fS:uK Nn 9 1 nS nS o o.heap.size none 0 0 ([]:List afs):=uK.nil _ _ _ _ _ _ _;have b0:∀b,X b->b<o.heap.size/\b≠l.heap.size:=fun b hb=>bC
  go_wp2_with fail;go_loopw [3,17] (fun g4 bO wr=>∃(j m G:Nat)(E:aft)(kn:List Int)(v:List afs),bO=.int .i64 j/\j<=n/\g4=.slice E m G/\m<=j/\uK Nn 9 1 nS nS wr o.heap.size E m G v/\JU wr l.heap.size kn/\IZ kn/\kn.length=n/\(∀a∈v,a.length<=100000000)/\R=zx S j (S.drop j) kn v/\sa l.heap.size o.heap.size o wr) (fun _ bO _=>n-(intOf bO).toNat);case atStart=>exact⟨0,0,0,none,_,[],rfl,sb _,rfl,sb _,fS,c4,Uy n,yJ,bA,c3.out,sa.refl _ _ _⟩
  case
   round=>
    obtain⟨j,m,G,E,kn,v,rfl,gd,rfl,gf,K,cz,d1,d6,b8,b9,D⟩:=hrel;have W:=rz b9;have U:=rz d6;have go:=D.size;have bj:=be.off D b0;have ea:=(D.cell (p:=rN w.heap.size 0) bl bl).trans N;have eb:=(D.cell (p:=rN w.heap.size 1) bl bl).trans O;have wI:=b3.trans (D.below (B':=w.heap.size) V V);have cy:=aU.below wI;clear b9 d6 c3 c4 N O;by_cases Dx:j<n
    ·have fi:(j:Int)<(n:Int):=V;have a1:j<S.length:=dv;obtain⟨q,p,x,a8,bv,c1,a9,bw,c2,aa,bx,ar,ab,bz,az,rfl,b9,bn,⟨ek,el,em,en,er,es,et,f0,f1,f2⟩,⟨e0,e2,e4,e6⟩,⟨ga,gb,f7,f8⟩,fn,ft,fx,fE⟩:=uY bj Dx;have bp:S[j]=x:=by rw[rD a1]at bn;injection bn
     have b7:x∈S:=bp▸sj a1;have d:=W.out;rw[rM a1,bp,zx]at d;have Q:=rz d;have i:=(afw wr).al rV (nC x a8 bv c1 a9 bw c2 aa bx ar ab bz az);have br:=D.trans (sa.of (i.mono (B':=o.heap.size) V));have c6:=wm.new wr x a8 bv c1 a9 bw c2 aa bx ar ab bz az wr.heap.size rfl;have g1:=i.l1;have cZ:=K.below uz i;have cA:=cz.below i V;have fj:x.kind=13->∀k∈x.rX,0<=k/\k<(n:Int):=d2 x b7;have ds:=dp x b7;clear bn bp d W K cz a1 b7;go_upto_region 8 with fail;generalize wr.alloc _=g5 at*;clear ek el em en er es et f0 f1 f2;have cW:=wI.trans (i.mono (B':=w.heap.size) V);have g0:=be.off br b0;have e1:=Row.below e0 i bq;have e3:=e2.below i bq;have e5:=Row.below e4 i bq;have e7:=Row.below e6 i bq;have ed:=i.cl ea V;have ef:=i.cl eb V;have f3:=aU.below cW;have d9:=U3 S root x g5 X _ n c a8 bv c1 a9 bw c2 aa bx ar ab bz az g0 e1 e3 e5 e7 f7 f8 fn ft fx fE a2 bq f3 ds fj;clear e0 e2 e4 e6 e1 e3 e5 e7 ea eb i bj cy;have cR:=c6;obtain⟨⟨cb,cc,cf,ch,ci,cj,ck,cp,cr,ct⟩,cv⟩:=c6;go_wp2_with fail;refine sG d9 fun ec t=> ?_
     clear d9 cb cc cf ch ci cj ck cp cr ct cv;have c7:=wm.below cR t g1;have N:=t.cl ed V;have O:=t.cl ef V;have d0:=cZ.below uz t;have cE:=cA.below t V;have a6:=br.trans (sa.of (t.mono (B':=o.heap.size) V));have gl:=t.size;have f4:=b3.trans (a6.below (B':=w.heap.size) V V);clear ed ef cZ cA cR;cases a4:vM S x with
     |false=>have d:=Q.out;rw[a4,tO]at d;subst d;clear Q a4;go_wp2_with fail;go_ret;exact⟨rfl,f4⟩
     |true=>
      have d:=Q.out;rw[a4,sk,HL.out]at d;have F:=rz d;clear d Q a4 t br cW;have di:=be.off a6 b0;have cS:∀b,X b->b<ec.heap.size/\b≠l.heap.size:=fun b hb=>bC
      have bk:=Ir S root l.heap.size _ n c X a2 d3 (n+1) j kn ec (by have:=aaS kn;rw[U.out]at this;omega) d1 U.out Dx di cE V cS;have M:=FH S (n+1) j kn d1;have d5:=M.len;have b6:=M.Ms;have fl:=M.lo;have fb:=M.hi;have d7:(z6 S (n+1) j kn).2.length=n:=d5.trans U.out;clear M d5;generalize z6 S (n+1) j kn=P at*;have af:=rz d7;clear d7 U;obtain⟨an,c9⟩:=P;simp only at bk b6 fl fb af F;go_wp2_with fail;refine sG bk fun a7 ⟨c5,C⟩=> ?_
      clear bk;have c8:=wm.off c7 C V V;have gr:=(C.cell (p:=rN w.heap.size 0) bl bl).trans N;have gs:=(C.cell (p:=rN w.heap.size 1) bl bl).trans O;have b5:=d0.off uz C V (by intro h;exact h);have bs:=a6.trans (C.mono (B':=o.heap.size) V);have gn:=C.size;have f5:=b3.trans (bs.below (B':=w.heap.size) V V);clear N O d0 cE c7 a6 C di cS;by_cases a5:an<=1000;rotate_left;·have g2:(1000:Int)<an:=V;have d:=F.out;rw[rI a5,tO]at d;subst d;clear F a5;go_wp2_with fail;go_ret;exact⟨rfl,f5⟩
      have g2:¬(1000:Int)<an:=V;have d:=F.out;rw[rY a5,sk]at d;have T:=rz d;clear d F a5;have d8:=vg x.kind a7;have g9:=c8;obtain⟨⟨cb,cc,cf,ch,ci,cj,ck,cp,cr,ct⟩,cv⟩:=c8;go_wp2_with fail;refine tZ d8 ?_;clear d8;cases a3:sr x.kind with
      |false=>have d:=T.out;rw[a3,rB bA]at d;have ad:=rz d;clear d T a3;go_wp2_with fail;refine⟨⟨j+1,m,G,E,c9,v,bA,V,rfl,V,b5,c5,b6,af.out,b8,ad.out,bs⟩,?_⟩;exact bN
      |true=>
       have d:=T.out;rw[a3,rG rfl]at d;have ad:=rz d;clear d T a3;have b2:=(afw a7).al rV (.cells #[.string ⟨x.name.toArray⟩] 9);have fc:=b5.below uz b2;have f6:=b5.block;go_wp2_with(at_builtin;go_must(refine tn (z:=.string ⟨#[]⟩) (bytes:=16) (H1:=a7.heap.size) (y:=x.name) (cs:=[sv x.name]) rfl ub yQ rfl V V uz rfl rfl fc rfl V (fun b hb=>by have:=(f6 b hb).2.1;omega) bW bW (fun j u hu=>ew) V (by simp;omega) ?_);intro eg ei g6 ff a0 gc g7);have g3:=(bs.trans (sa.of (b2.mono (B':=o.heap.size) V))).trans (sa.of a0);have eh:=(c5.below b2 V).below a0 V;refine⟨⟨j+1,m+1,ei,eg,c9,v++[x.name],bA,V,rfl,V,ff,eh,b6,af.out,?_,ad.out,g3⟩,?_⟩
       ·intro a b1;rcases sI.1 b1 with h|h;·exact b8 a h
        ·rw[sJ]at h;rw[h];exact ds.name
       ·exact bN
    ·obtain rfl:j=n:=V;have d:=W.out;rw[tD da,zx]at d;have dj:=C2 K;have f9:=K.cap;have b4:=Bm 46 (enters_of WC bm rfl) vL v wr _ E m G dj (fun b hb=>hb.2) V f9 (fun a b1 w' hb=>Ht cy rfl v b8 a b1 w' hb);rw[<-d]at b4;have fi:¬(j:Int)<(j:Int):=V;clear W K dj dp d bj;go_wp2_with fail;refine sG b4 fun g6 a0=> ?_
     clear b4;go_wp2_with fail;go_ret;exact⟨rfl,wI.trans (a0.mono j8)⟩
def DB.inv{w:World}{X:afu}{f:Fd}{s t:ByteArray}{a B B':aft}{n c m d j b:Nat}{ty k i:Int}{o:Bool}(h:DB w X [.string s,.slice a n c,.int .i64 ty,.bool o,.int .i64 k,.int .i64 i,.string t,.slice B m d,.slice B' j b] f):Row w X 1 a n (uL f.aliases)/\n<=c/\n<=100000000/\uq w X (jv k i t B m d B' j b) f.sL:=by
 generalize l:[Value.string s,.slice a n c,.int .i64 ty,.bool o,.int .i64 k,.int .i64 i,.string t,.slice B m d,.slice B' j b]=cs at h;cases h with
 |mk p q r v=>simp only[List.cons.injEq,Value.slice.injEq,Value.int.injEq,Value.string.injEq,Value.bool.injEq,true_and,and_true]at l;obtain⟨_,⟨rfl,rfl,rfl⟩,_,_,rfl,rfl,rfl,⟨rfl,rfl,rfl⟩,rfl,rfl,rfl⟩:=l;exact⟨p,q,r,v⟩
def Lw.inv{w:World}{X:afu}{x:Nd}{s t:ByteArray}{j k l m:aft}{a c1 b c2 d o i p:Nat}{y z v:Int}{r:Bool}(h:Lw w X [.int .i64 y,.string s,.slice j a c1,.slice k b c2,.slice l d o,.bool r,.string t,.int .i64 z,.int .i64 v,.slice m i p] x):(Row w X 1 j a (uL x.aliases)/\xu w X k b x.fields/\Row w X 1 l d (uL x.symbols)/\Row w X 1 m i (xZ x.rX))/\(a<=c1/\b<=c2/\d<=o/\i<=p)/\a<=100000000/\b<=100000000/\d<=100000000/\i<=100000000:=by
 generalize q:[Value.int .i64 y,.string s,.slice j a c1,.slice k b c2,.slice l d o,.bool r,.string t,.int .i64 z,.int .i64 v,.slice m i p]=cs at h;cases h with
 |mk K M N O F G H I B C D E=>simp only[List.cons.injEq,Value.slice.injEq,Value.int.injEq,Value.string.injEq,Value.bool.injEq,true_and,and_true]at q;obtain⟨_,_,⟨rfl,rfl,rfl⟩,⟨rfl,rfl,rfl⟩,⟨rfl,rfl,rfl⟩,_,_,_,_,rfl,rfl,rfl⟩:=q;exact⟨⟨K,M,N,O⟩,⟨F,G,H,I⟩,B,C,D,E⟩
section
variable(j:Bool)(k d:Int)(g:Nat)(S:List Nd)(root h:Int)(w:World)(n r:Nat)
def Jw{S:List Nd}{a:Nat}{d:List Bool}(k:Met S a d){i:Nat}{x:Nd}(l:S[i]? =some x)(o:sr x.kind=true):d[i]? =some (decide (i<a)):=by
 have j:=k.iff i x l o;have m:i<d.length:=by rw[k.len];exact(rQ.1 l).1
 obtain⟨b,hb⟩:∃b,d[i]? =some b:=⟨_,rD m⟩;rw[hb]at j|-;congr 1;cases b with
 |true=>have:=j.1 rfl;simp[this]
 |false=>
  have:¬i<a:=fun h=>by have:=j.2 h;injection this with this;cases this
  simp[this]
def XO{w:World}{h a:Nat}{b:List Bool}(j:Mt w h b)(d:a<b.length){v:Bool}(i:w.cell? (rN h a)=some (.bool v)):b[a]? =some v:=by have:=(j a b[a] (rD d)).1;rw[i]at this;injection this with this;injection this with this;rw[rD d,this]
def Wx.IW{w:World}{g h d:Nat}{A:aft}{n c:Nat}{root:Int}{b:List Bool}{i:afs}{A':aft}{m c':Nat}(a:Wx w g h d A n c root b i A' m c'){j:Nat}(p:j<b.length)(v:Bool):Wx (w.setCell ⟨h,j,none⟩ (.bool v)) g h d A n c root (b.set j v) i A' m c':=by obtain⟨⟨y,z,B,C⟩,x,r,q,t,o,l,k,E⟩:=a;have D:¬h=g:=Ak k;refine⟨⟨bi,bi,bi,bi⟩,fun j=>by have:=x j;go_simp,r.set p v,by rw[uB];exact q,t.setAt l j _,o,l,k,by simp;omega⟩
def Zv{S:List Nd}(ok:LP S)(f:Nat)(k:Int)(E:Nat)(ab:0<=k)(an:k<(E:Int))(hn:(match S[k.toNat]? with|some y=>sr y.kind|none=>false)=true):WQ S (f+1) k E E:=by
 cases hx:S[k.toNat]? with
 |none=>rw[hx]at hn;cases hn
 |some x=>
  rw[hx]at hn;simp only at hn;obtain⟨a,rfl⟩:∃a:Nat,k=(a:Int):=⟨k.toNat,V⟩;rw[su]at hx;have ar:¬x.kind<=8:=fO;have ci:=zm (Af (ok.node x (rU hx)) hn).name;have l1:zn.length=24:=rfl;have l2:Fi.length=23:=rfl;have cj:=vN x.name;have e:∀st:CS,Met S E st.2->CE S (f+1) a st=(st.1++sB x.name,st.2):=fun st r=>by have F:=(r.iff a x hx hn).2 V;unfold CE;simp only[hx,rB ar,rG hn,rG F]
  refine⟨⟨rZ _,⟨ab,an⟩,fun st r=> ?_⟩,fun st r c9 w g h D A n c root X hE hF=> ?_⟩;·rw[su,e st r];refine⟨r,?_⟩;exact dY
  rw[su,e st r];have F:=Jw r hx hn;have az:a<E:=V;rw[rY az]at F;have b0:g<D/\h<D/\g≠h/\D<=w.heap.size:=eW;have b2:w.heap.size≠g:=V;have b3:w.heap.size≠h:=V;obtain⟨R,b5,aa,K⟩:=hF;have hF:LH w g h D A n c root st.2 st.1:=⟨R,b5,aa,K⟩;obtain⟨⟨cE,cR,b9,cS⟩,cW,r,O,_⟩:=K;have M:=hE.row.len;have bj:=rz M;have be:=rz O;have ad:a<n:=lu;have c3:(a:Int)<(n:Int):=V;obtain⟨q,p,x',i,t,c1,j,z,c2,l,B,m,b,d,o,rfl,b1,Ux,⟨bk,bn,bp,br,bs,bv,bw,bx,bz,bO⟩,⟨cr,b6,b7,Q⟩,⟨c4,c5,c6,c7⟩,cb,cc,cf,ch⟩:=uY hE.row ad;obtain rfl:x=x':=iG;have ck:=(hE.Dj q b1).1;have C:=(afw w).al rV (nC x i t c1 j z c2 l B m b d o);have H:WV (w.alloc (nC x i t c1 j z c2 l B m b d o)) w.heap.size x i t c1 j z c2 l B m b d o:=⟨wm.new w x i t c1 j z c2 l B m b d o w.heap.size rfl,PD.new _ _ _ bH⟩;have T:=hF.below C;have W:TF g h w (w.alloc (nC x i t c1 j z c2 l B m b d o)):=TF.below C;have I:sN g h D w (w.alloc (nC x i t c1 j z c2 l B m b d o)):=sN.below (C.mono b0.2.2.2);have cz:=C.cl b9 V;have b8:=fun v(b4:st.2[a]? =some v)=>(C.cell (p:=rN h a) bl).trans (r a v b4).1
  have cs:=b6.keep (w':=w.alloc (nC x i t c1 j z c2 l B m b d o)) (Y:=X) (fun q hq=>C.cell fB) ug;have ct:=b7.keep (w':=w.alloc (nC x i t c1 j z c2 l B m b d o)) (Y:=X) (fun q hq=>C.cell fB) ug;have cv:=Q.keep (w':=w.alloc (nC x i t c1 j z c2 l B m b d o)) (Y:=X) (fun q hq=>C.cell fB) ug;have cx:RowKit.Hid (∀w',sN g h D w w'->Row w' X 1 b d (xZ x.rX)):=fun w' G=>Q.keep (fun q hq=>G.cell (hE.Dj _ hq).1 (hE.Dj _ hq).2.1 (hE.Dj _ hq).2.2) ug
  have bd:=hE.Cm I;have cp:=rz hx;clear M O;have cA:=b8 true F;have c8:(8:Int)<x.kind:=V;go_enter Tryz.func32,Tryz.ntmps32;go_upto_region 4 with fail;generalize w.alloc _=w1 at*;obtain⟨⟨Z,a0,a1,a2,a3,a4,a5,a6,a7,a8⟩,a9⟩:=H.1;have aU:=vg x.kind w1;go_wp2_with fail;refine tZ aU ?_;rw[hn];have af:=zk g h D _ n c root st.2 (st.1) x.name w1 T cg V;go_wp2_with fail;refine sG af fun cy ⟨F2,N,G⟩=> ?_
  have T2:=W.trans N;have O2:=I.trans G;have U:=H.tf N b2 b3;obtain⟨⟨Z,a0,a1,a2,a3,a4,a5,a6,a7,a8⟩,a9⟩:=U.1;exact iS
def Ub{S:List Nd}(ok:LP S):∀(f a b:Nat),ye S f a=some b->WQ S (f+1) (a:Int) a b:=by
 intro f;induction f with
 |zero=>intro a b Z;cases Z
 |succ f ei=>
  intro a b Z;simp only[ye]at Z;cases hx:S[a]? with
  |none=>rw[hx]at Z;cases Z
  |some x=>
   rw[hx]at Z;have BI:=ok.node x (rU hx);have E:vD (WQ S (f+1)) (uk x) (a+1) b:=Ma (P:=WQ S (f+1)) (fun k a1 dp e3 e8=>Zv ok f k a1 dp e3 e8) (ye S f) (fun a b h=>ei a b h) _ _ _ Z;have e0:a+1<=b:=vD.le (fun k a b h=>h.1.1) E;have cx:∀st:CS,Met S a st.2->Met S b (CE S (f+1+1) a st).2/\(CE S (f+1+1) a st).1.length+60000*a<=st.1.length+700+60000*b:=by
    intro st y;have D:vD (CaL S (CE S (f+1))) (uk x) (a+1) b:=E.imp (fun k a b h=>h.1);rw[CE];simp only[hx];by_cases a3:x.kind<=8;·rw[rG a3];have d1:sr x.kind=false:=lm;have a4:uk x=[]:=pT;rw[a4]at D;cases D;have h1:=ED x.kind;have h2:=vN (tI x.kind);refine⟨yy hx d1 y,?_⟩;exact dY
    ·rw[rB a3];cases hN:sr x.kind with
     |true=>
      have a0:=Jw y hx hN;rw[rI (ER a)]at a0;rw[rG rfl,rB (by rw[a0];simp)];have F:=BN hx y;have eb:=zm (Af BI hN).name;have f8:=PS x st.1 eb;have ek:zv.length=11:=rfl;have el:yT.length=12:=rfl;have em:FQ.length=8:=rfl;unfold W6;by_cases be:x.kind=9;·rw[rG be];have ab:=Cn BI be;unfold uk at D;rw[rG be]at D;obtain⟨_,h2⟩:=L5 x.fields (a+1) b D ab.2;obtain⟨h3,h4⟩:=h2 0 (E7 x st.1++zv,st.2.set a true) F;refine⟨h3,?_⟩;have hb:=ab.1;simp only[rL,rP,sl,ek]at h4|-;omega
      ·have a4:uk x=[]:=qi;rw[a4]at D;cases D;rw[rB be];by_cases c5:x.kind=10;·rw[rG c5];have ab:=DM BI c5;have ef:=L6 x.symbols 0 (E7 x st.1++yT) ab.2;refine⟨F,?_⟩;have hb:=ab.1;simp only[rL,rP,sl,el]at ef|-;omega
       ·rw[rB c5];have d1:=MG x.size;refine⟨F,?_⟩;simp only[rL,rP,sl,em];omega
     |false=>
      rw[rB bA];have F:=yy hx hN y;by_cases IA:x.kind=13;·rw[rG IA];have az:=Dc BI IA;unfold uk at D;rw[rB V,rB V,rG IA]at D;obtain⟨_,h2⟩:=Ua D;obtain⟨h3,h4⟩:=h2 0 (st.1++[91],st.2) F;refine⟨h3,?_⟩;simp only[rL,rP,sl]at h4|-;omega
      ·rw[rB IA];have Rx:x.kind=11\/x.kind=12:=cP;unfold uk at D;rw[rB V,rG Rx]at D;cases D with
       |cons h1 h2=>
        cases h2;have l1:zn.length=24:=rfl;have l2:Fi.length=23:=rfl;split;·refine⟨(h1.2.2 (st.1++zn,st.2) F).1,?_⟩;have h4:=(h1.2.2 (st.1++zn,st.2) F).2;simp only[rL,rP,sl,l1]at h4|-;omega
        ·refine⟨(h1.2.2 (st.1++Fi,st.2) F).1,?_⟩;have h4:=(h1.2.2 (st.1++Fi,st.2) F).2;simp only[rL,rP,sl,l2]at h4|-;omega
   refine⟨⟨V,⟨V,V⟩,fun st y=>by rw[su];exact cx st y⟩,fun st y fS w g h base A n c root X hE hF=> ?_⟩;rw[su];obtain⟨f6,aa⟩:=sW (CE S (f+1+1) a st);rw[<-aa];rw[CE]at aa;simp only[hx]at aa;have an:=rz aa;have a7:=rz E;clear aa E cx Z;have l1:zn.length=24:=rfl;have l2:Fi.length=23:=rfl;have ec:g<base/\h<base/\g≠h/\base<=w.heap.size:=eW;have Dk:w.heap.size≠g:=V;have Dl:w.heap.size≠h:=V;obtain⟨bv,c6,bw,a9⟩:=hF;have hF:LH w g h base A n c root st.2 st.1:=⟨bv,c6,bw,a9⟩;obtain⟨⟨dd,f1,c9,f2⟩,f3,y,cW,_⟩:=a9;have cy:=hE.row.len;have f5:=rz cy;have f4:=rz cW;have bx:a<n:=lu;have f9:(a:Int)<(n:Int):=V;obtain⟨q,p,x',G,N,c1,H,O,c2,I,Q,K,C,l,M,rfl,ed,Ux,⟨cf,ch,ci,cj,ck,cp,cr,cs,ct,cv⟩,⟨es,bj,bn,c7⟩,⟨fb,fc,ff,fi⟩,g2,e9,ea,g3⟩:=uY hE.row bx;obtain rfl:x=x':=iG;have g6:=(hE.Dj q ed).1;have R:=(afw w).al rV (nC x G N c1 H O c2 I Q K C l M);have m:WV (w.alloc (nC x G N c1 H O c2 I Q K C l M)) w.heap.size x G N c1 H O c2 I Q K C l M:=⟨wm.new w x G N c1 H O c2 I Q K C l M w.heap.size rfl,PD.new _ _ _ bH⟩;have z:=hF.below R;have t:TF g h w (w.alloc (nC x G N c1 H O c2 I Q K C l M)):=TF.below R;have o:sN g h base w (w.alloc (nC x G N c1 H O c2 I Q K C l M)):=sN.below (R.mono ec.2.2.2);have g9:=R.cl c9 V;have bs:=fun v(eg:st.2[a]? =some v)=>(R.cell (p:=rN h a) bl).trans (y a v eg).1
   have bk:=bj.keep (w':=w.alloc (nC x G N c1 H O c2 I Q K C l M)) (Y:=X) (fun q hq=>R.cell fB) ug;have bp:=bn.keep (w':=w.alloc (nC x G N c1 H O c2 I Q K C l M)) (Y:=X) (fun q hq=>R.cell fB) ug;have br:=c7.keep (w':=w.alloc (nC x G N c1 H O c2 I Q K C l M)) (Y:=X) (fun q hq=>R.cell fB) ug;have et:RowKit.Hid (∀w',sN g h base w w'->Row w' X 1 C l (xZ x.rX)):=fun w' hO=>c7.keep (fun q hq=>hO.cell (hE.Dj _ hq).1 (hE.Dj _ hq).2.1 (hE.Dj _ hq).2.2) ug
   have cb:=hE.Cm o;have d7:=rz hx;clear Ux cy cW y es bj bn c7 f3 f1 f2 hF;have E:=a7.out;by_cases a3:x.kind<=8
   ·have d:=an.out;rw[rG a3]at d;subst d;clear an bs bk bp br E a7;go_enter Tryz.func32,Tryz.ntmps32;go_upto_region 4 with fail;generalize w.alloc _=w1 at*;clear cf ch ci cj ck cp cr cs ct cv dd c9 R;obtain⟨⟨b0,b1,b2,b3,b4,b5,b6,b7,b8,b9⟩,bz⟩:=m.1;have d6:=BC x.kind w1 cb.zL;go_wp2_with fail;refine tZ d6 ?_;clear d6;have g7:=ED x.kind;have g5:=vN (tI x.kind);have hc:=zk g h base _ n c root st.2 (st.1) (tI x.kind) w1 z cg V;go_wp2_with fail;refine sG hc fun U ⟨F2,hT,hO⟩=> ?_
    clear hc b0 b1 b2 b3 b4 b5 b6 b7 b8 b9 bz;have T2:=t.trans hT;have O2:=o.trans hO;have i:=m.tf hT Dk Dl;obtain⟨⟨b0,b1,b2,b3,b4,b5,b6,b7,b8,b9⟩,bz⟩:=i.1;clear hT hO z t o m;exact iS
   ·have f7:(8:Int)<x.kind:=V;have d:=an.out;rw[rB a3]at d;have ar:=rz d;clear an d a3;go_enter Tryz.func32,Tryz.ntmps32;go_upto_region 4 with fail;generalize w.alloc _=w1 at*;clear cf ch ci cj ck cp cr cs ct cv dd c9 R;obtain⟨⟨b0,b1,b2,b3,b4,b5,b6,b7,b8,b9⟩,bz⟩:=m.1;have a5:=vg x.kind w1;go_wp2_with fail;refine tZ a5 ?_;clear a5;cases hN:sr x.kind with
    |true=>
     have a0:=Jw y hx hN;rw[rI (ER a)]at a0;have d9:=bs false a0;have d:=ar.out;rw[rG hN,rB (by rw[a0];simp)]at d;have a2:=rz d;have a5:=fun w'=>vg x.kind w'
     have d0:=fun w' f0 e6 e5 ds dx bj bn=>Om S (f+1) a b x d7.out BI hN (fun dr=>by have:=E;unfold uk at this;rw[rG dr]at this;exact this) e0 f0 e6 e5 G N c1 H O c2 I Q K C l M w' g h base (some ⟨q,p,none⟩) n c root X ds dx bj bn e9 ea
     have F:=BN d7.out y;have di:=rz F;have fm:h<w1.heap.size:=by have:=o.size;omega
     clear d ar a0 bs E a7 F y hx;go_upto_region 8 with fail;go_wp2_with fail;refine tZ (a5 _) ?_;rw[hN];obtain⟨bv,c6,bw,a9⟩:=z;have cc:=a9;obtain⟨_,_,bd,cZ,_⟩:=a9;have e1:w1.frozen? (rN h a)=false:=(bd a false (by have:=bd;exact XO bd (by rw[cZ];exact bx) d9)).2;go_upto_region 10 with fail;have F2:LH (w1.setCell ⟨h,a,none⟩ (.bool true)) g h base (some ⟨q,p,none⟩) n c root (st.2.set a true) st.1:=⟨bv,c6,bw,cc.IW (by rw[cZ];exact bx) true⟩;have T2:=t.trans (TF.IW (g:=g) (h:=h) a (.bool true));have O2:=o.trans (sN.IW (g:=g) (h:=h) (B:=base) (w:=w1) a (.bool true));have i:=m.tf (TF.IW (g:=g) (h:=h) a (.bool true)) Dk Dl;have d4:=bk.keep (w':=w1.setCell ⟨h,a,none⟩ (.bool true)) (Y:=X) (fun q hq=>(sN.IW (g:=g) (h:=h) (B:=base) (w:=w1) a (.bool true)).cell (hE.Dj _ hq).1 (hE.Dj _ hq).2.1 (hE.Dj _ hq).2.2) ug;have d5:=bp.keep (w':=w1.setCell ⟨h,a,none⟩ (.bool true)) (Y:=X) (fun q hq=>(sN.IW (g:=g) (h:=h) (B:=base) (w:=w1) a (.bool true)).cell (hE.Dj _ hq).1 (hE.Dj _ hq).2.1 (hE.Dj _ hq).2.2) ug;have cz:=d0 (w1.setCell ⟨h,a,none⟩ (.bool true)) (st.1,st.2.set a true) di.out bl (hE.Cm O2) F2 d4 d5;clear b0 b1 b2 b3 b4 b5 b6 b7 b8 b9 bz cc bd d9 e1 d0 d4 d5 bk bp br m t o cb;generalize w1.setCell _ _=U at*;obtain⟨⟨b0,b1,b2,b3,b4,b5,b6,b7,b8,b9⟩,bz⟩:=i.1;go_wp2_with fail;refine sG cz fun w3 ⟨F3,hT,hO⟩=> ?_
     clear cz;go_wp2_with fail;refine uv (tR rfl _ _ _) rfl ?_;rw[a2.out];exact⟨rfl,F3,T2.trans hT,O2.trans hO⟩
    |false=>
     have d:=ar.out;rw[rB (by rw[hN];simp)]at d;have a2:=rz d;have a5:=fun w'=>vg x.kind w'
     have d2:=yy hx hN y;have a8:=rz d2;clear d ar bs y d2 bk bp hx;go_upto_region 8 with fail;go_wp2_with fail;refine tZ (a5 _) ?_;rw[hN];by_cases IA:x.kind=13
     ·have er:(x.kind==13)=true:=tl.2 IA;have d:=a2.out;rw[rG IA]at d;have HR3:=rz d;have a4:vD (WQ S (f+1)) x.rX (a+1) b:=by have:=E;exact oB
      have HKK:=rz a4;have az:=Dc BI IA;have QP:=rz (show x.rX.length=l by have:=br.len;exact fQ);have fE:l<=10:=by rw[QP.out]at az;exact az
      clear d a2 E a4 IA az a7;have hc:=uD g h base _ n c root st.2 (st.1) [91] w1 z cg;go_wp2_with fail;refine sG hc fun U ⟨F2,hT,hO⟩=> ?_
      clear hc b0 b1 b2 b3 b4 b5 b6 b7 b8 b9 bz;have T2:=t.trans hT;have O2:=o.trans hO;have i:=m.tf hT Dk Dl;obtain⟨⟨b0,b1,b2,b3,b4,b5,b6,b7,b8,b9⟩,bz⟩:=i.1;clear hT hO z t o m;clear br;go_wp2_with fail;go_loopw [71] (fun c8 wr=>∃(j:Nat)(r:CS)(a1:Nat),c8=.int .i64 j/\j<=l/\RowKit.Hid (Du (CE S (f+1)) j (x.rX.drop j) r=Du (CE S (f+1)) 0 x.rX (st.1++[91],st.2))/\Met S a1 r.2/\RowKit.Hid (vD (WQ S (f+1)) (x.rX.drop j) a1 b)/\r.1.length+701*(l-j)+60000*b<=580000000+60000*a1/\LH wr g h base (some ⟨q,p,none⟩) n c root r.2 r.1/\TF g h w wr/\sN g h base w wr/\WV wr w.heap.size x G N c1 H O c2 I Q K C l M) (fun c8 _=>l-(intOf c8).toNat);case atStart=>exact⟨0,(st.1++[91],st.2),a+1,rfl,sb _,fF,a8.out,gI,(by simp only[rL,rP,sl,Nat.sub_zero];omega),F2,T2,O2,i⟩
      case
       round=>
        obtain⟨j,r,a1,rfl,fn,hq,cS,aU,g0,z,t,o,m⟩:=hrel;have g4:a1<=b:=vD.le (fun k a b h=>h.1.1) aU.out;obtain⟨w3,eh⟩:=sW wr;subst eh;clear b0 b1 b2 b3 b4 b5 b6 b7 b8 b9 bz;obtain⟨⟨b0,b1,b2,b3,b4,b5,b6,b7,b8,b9⟩,bz⟩:=m.1;have c4:Row w3 X 1 C l (xZ x.rX):=by have dz:=o;exact et.out w3 dz
        by_cases Dx:j<l
        ·have e2:(j:Int)<(l:Int):=V;have bO:j<x.rX.length:=im;obtain⟨gf,g8,rfl,fl,cA⟩:=c4.pos V;have e4:=(cA j [.int .i64 x.rX[j]] (by simp[xZ,bO])).2 0 _ rfl;rw[tL,sE]at e4;have fj:=Al j;have cR:x.rX.drop j=x.rX[j]::x.rX.drop (j+1):=rM bO;have W:=hq.out;have cE:=aU.out;rw[cR]at W cE;rw[Du]at W;generalize x.rX[j]=k at*;have af:=rz W;clear cR W hq aU bO c4 cA;cases cE with
         |cons T c3=>
          rename_i d8;have ft:=T.1.1;have fx:d8<=b:=vD.le (fun k a b h=>h.1.1) c3;have hc:=DN j g h base _ n c root r.2 r.1 w3 z V;go_wp2_with fail;refine sG hc fun U ⟨F2,hT,hO⟩=> ?_
          clear hc b0 b1 b2 b3 b4 b5 b6 b7 b8 b9 bz;have T2:=t.trans hT;have O2:=o.trans hO;have i:=m.tf hT Dk Dl;obtain⟨⟨b0,b1,b2,b3,b4,b5,b6,b7,b8,b9⟩,bz⟩:=i.1;clear hT hO z t o m;have hc:=T.2 (r.1++tV j,r.2) cS dY U g h base _ n c root X (hE.Cm O2) F2;go_wp2_with fail;refine sG hc fun w4 ⟨F3,hT,hO⟩=> ?_
          clear hc b0 b1 b2 b3 b4 b5 b6 b7 b8 b9 bz;have T3:=T2.trans hT;have O3:=O2.trans hO;have N3:=i.tf hT Dk Dl;obtain⟨⟨b0,b1,b2,b3,b4,b5,b6,b7,b8,b9⟩,bz⟩:=N3.1;clear hT hO F2 T2 O2 i;obtain⟨e7,ad⟩:=T.1.2.2 (r.1++tV j,r.2) cS;have g1:(r.1++tV j).length<=r.1.length+1:=dY;have d3:=af.out;simp only at ad;generalize CE S (f+1) k.toNat (r.1++tV j,r.2)=s7 at*;have dj:=rz d3;have df:=rz c3;clear d3 af T c3;go_wp2_with fail;refine⟨⟨j+1,s7,d8,bA,V,dj.out,e7,df.out,V,F3,T3,O3,N3⟩,?_⟩;exact bN
        ·obtain rfl:j=l:=V;have e2:¬(j:Int)<(j:Int):=V;have W:=hq.out;rw[tD (by rw[QP.out];omega),Du]at W;have af:=rz W;clear hq W aU HKK F2 T2 O2 i c4;have hc:=uD g h base _ n c root r.2 (r.1) [93] w3 z cg;go_wp2_with fail;refine sG hc fun U ⟨F2,hT,hO⟩=> ?_
         clear hc b0 b1 b2 b3 b4 b5 b6 b7 b8 b9 bz;have T2:=t.trans hT;have O2:=o.trans hO;have i:=m.tf hT Dk Dl;obtain⟨⟨b0,b1,b2,b3,b4,b5,b6,b7,b8,b9⟩,bz⟩:=i.1;clear hT hO z t o m;go_wp2_with fail;refine uv (tR rfl _ _ _) rfl ?_;rw[HR3.out,<-af.out];exact⟨rfl,F2,T2,O2⟩
     ·have er:(x.kind==13)=false:=rA.2 IA;have d:=a2.out;rw[rB IA]at d;have Rx:x.kind=11\/x.kind=12:=cP;have T:WQ S (f+1) x.items (a+1) b:=by have:=E;exact om
      clear a2 E a7 IA;by_cases a6:x.kind=11
      ·have en:(x.kind==11)=true:=tl.2 a6;rw[rG a6]at d;have HR3:=rz d;clear d a6 Rx;have hc:=uD g h base _ n c root st.2 (st.1) zn w1 z cg;go_wp2_with fail;refine sG hc fun U ⟨F2,hT,hO⟩=> ?_
       clear hc b0 b1 b2 b3 b4 b5 b6 b7 b8 b9 bz;have T2:=t.trans hT;have O2:=o.trans hO;have i:=m.tf hT Dk Dl;obtain⟨⟨b0,b1,b2,b3,b4,b5,b6,b7,b8,b9⟩,bz⟩:=i.1;clear hT hO z t o m;have hc:=T.2 (st.1++zn,st.2) a8.out fo U g h base _ n c root X (hE.Cm O2) F2;go_wp2_with fail;refine sG hc fun w3 ⟨F3,hT,hO⟩=> ?_
       clear hc b0 b1 b2 b3 b4 b5 b6 b7 b8 b9 bz;have T3:=T2.trans hT;have O3:=O2.trans hO;have N3:=i.tf hT Dk Dl;obtain⟨⟨b0,b1,b2,b3,b4,b5,b6,b7,b8,b9⟩,bz⟩:=N3.1;clear hT hO F2 T2 O2 i;have ad:=(T.1.2.2 (st.1++zn,st.2) a8.out).2;simp only[rL,l1,l2]at ad;generalize CE S (f+1) x.items.toNat (st.1++zn,st.2)=s7 at*;exact bX
      ·have en:(x.kind==11)=false:=rA.2 a6;rw[rB a6]at d;have HR3:=rz d;clear d a6 Rx;have hc:=uD g h base _ n c root st.2 (st.1) Fi w1 z cg;go_wp2_with fail;refine sG hc fun U ⟨F2,hT,hO⟩=> ?_
       clear hc b0 b1 b2 b3 b4 b5 b6 b7 b8 b9 bz;have T2:=t.trans hT;have O2:=o.trans hO;have i:=m.tf hT Dk Dl;obtain⟨⟨b0,b1,b2,b3,b4,b5,b6,b7,b8,b9⟩,bz⟩:=i.1;clear hT hO z t o m;have hc:=T.2 (st.1++Fi,st.2) a8.out fo U g h base _ n c root X (hE.Cm O2) F2;go_wp2_with fail;refine sG hc fun w3 ⟨F3,hT,hO⟩=> ?_
       clear hc b0 b1 b2 b3 b4 b5 b6 b7 b8 b9 bz;have T3:=T2.trans hT;have O3:=O2.trans hO;have N3:=i.tf hT Dk Dl;obtain⟨⟨b0,b1,b2,b3,b4,b5,b6,b7,b8,b9⟩,bz⟩:=N3.1;clear hT hO F2 T2 O2 i;have ad:=(T.1.2.2 (st.1++Fi,st.2) a8.out).2;simp only[rL,l1,l2]at ad;generalize CE S (f+1) x.items.toNat (st.1++Fi,st.2)=s7 at*;exact bX
def JI(h:Int):Int:=if(Go.bits BinOp.and IntKind.u64 h 1==1)=true then Go.bits BinOp.xor IntKind.u64 (h/2) 13933329357911598997 else h/2
def FZ:Nat->Int->Int
 |0,h=>h
 |n+1,h=>FZ n (JI h)
def H2:Int->afs->Int
 |h,[]=>h
 |h,c::r=>H2 (FZ 8 (Go.bits BinOp.xor IntKind.u64 h (c.toNat:Int))) r
def VE:Calls Tryz.prog 131 #[.int .u64 h] w (zW w (.int .u64 (JI h))):=by
 obtain⟨R,a⟩:=sW (JI h);rw[<-a];unfold JI at a;have b:=rz a;clear a;go_enter Tryz.func131,Tryz.ntmps131;go_wp2_with fail;all_goals go_ret
 ·rename_i hb;have h:=b.out;rw[rG hb]at h;exact⟨by rw[h];rfl,rfl⟩
 ·rename_i hb;have h:=b.out;rw[rB (by simp[hb])]at h;exact⟨by rw[h];rfl,rfl⟩
def Tq(A:aft)(n c B:Nat)(xs:afs)(w:World)(z:Rd w B A n xs)(a2:n<=1000000000):Calls Tryz.prog 72 #[.int .u64 h,.slice A n c] w (zW w (.int .u64 (H2 h xs))):=by
 have N:=z.len;obtain⟨R,k⟩:=sW (H2 h xs);rw[<-k];have D:=rz k;clear k;go_enter Tryz.func72,Tryz.ntmps72;go_wp2_with fail;go_loopw [6,12] (fun o l wr=>∃(j:Nat)(H:Int),l=.int .i64 j/\o=.int .u64 H/\j<=n/\R=H2 H (xs.drop j)/\w=wr) (fun _ l _=>n-(intOf l).toNat);case atStart=>exact⟨0,h,rfl,rfl,sb _,D.out,rfl⟩
 case
  round=>
   obtain⟨j,H,rfl,rfl,Z,y,rfl⟩:=hrel;have q:=rz y;clear y;by_cases M:j<n
   ·obtain⟨Q,a3,x,G,X,C,W⟩:=z.at_ M;have t:j<xs.length:=V;have O:xs[j]=x:=by rw[rD t]at C;injection C
    have b:R=H2 (FZ 8 (Go.bits BinOp.xor IntKind.u64 H (x.toNat:Int))) (xs.drop (j+1)):=by rw[q.out,rM t,O];rfl
    have E:=rz b;have a0:(j:Int)<(n:Int):=V;have a1:=x.toNat_lt;subst G;clear b;go_wp2_with fail;generalize Go.bits BinOp.xor IntKind.u64 H (x.toNat:Int)=H1 at*;go_loopw [6,20] (fun o m wr=>∃(i:Nat)(a:Int),m=.int .i64 i/\o=.int .u64 a/\i<=8/\FZ (8-i) a=FZ 8 H1/\w=wr) (fun _ m _=>8-(intOf m).toNat);case atStart=>exact⟨0,H1,rfl,rfl,V,rfl,rfl⟩
    case
     round=>
      obtain⟨i,a,rfl,rfl,Y,r,rfl⟩:=hrel;have p:=rz r;clear r;by_cases T:i<8
      ·have U:(i:Int)<8:=V;have b:FZ (8-(i+1)) (JI a)=FZ 8 H1:=by rw[<-p.out,show 8-i=(8-(i+1))+1 from V];rfl
       have d:=rz b;clear b;go_wp2_with fail;refine tZ (VE a _) ?_;go_wp2_with fail;refine⟨⟨i+1,JI a,bA,rfl,V,d.out,by trivial⟩,?_⟩;exact bN
      ·have F:i=8:=V;subst F;have I:FZ 8 H1=a:=by rw[<-p.out];rfl
       have d:=rz (I▸E.out);go_wp2_with fail;refine⟨⟨j+1,a,bA,rfl,V,d.out,by trivial⟩,?_⟩;exact bN
   ·have v:j=n:=V;have K:R=H:=by rw[q.out,v,<-N,zB];rfl
    subst K v;exact bI
def Yh(xs:afs):Int:=H2 13933329357911598997 xs
def WX(A:aft)(n c B:Nat)(xs:afs)(w:World)(b:Rd w B A n xs)(a:n<=1000000000):Calls Tryz.prog 33 #[.slice A n c] w (zW w (.int .u64 (Yh xs))):=by
 have h:=fun c=>Tq 13933329357911598997 A n c B xs w b a
 unfold Yh;generalize H2 13933329357911598997 xs=R at*;go_enter Tryz.func33,Tryz.ntmps33;go_wp2_with fail;refine tZ (h c) ?_;exact bI
def Hq(S:List Nd):afs:=(CE S 34 0 ([],List.replicate S.length false)).1
def AU(S:List Nd)(root:Int):Int:=if ur S root=true then(if 20000<(Hq S).length then 3 else 0)else 2
def DD(S:List Nd)(root:Int):afs:=if AU S root=0 then Hq S else []
def KR(hr:r=w.heap.size):Mt (w.alloc (.cells (madeCells #[.bool false] n) 4)) r (List.replicate n false):=dm
def RG:(Tryz.prog.info? 4).map (fun i=>(i.zero,i.size,i.bytes))=some (some (.bool false),1,1):=bm
def H0(a:n<=100000000)(w:World):(Instr.makeSlice 69 (.int .i64 (n:Int)) (.int .i64 (n:Int))).run Tryz.prog w=.ok (.slice (some ⟨w.heap.size,0,none⟩) n n) (w.alloc (.cells (madeCells #[.bool false] n) 4)):=run_make_row' (P:=Tryz.prog) 69 4 (.bool false) 1 Tryz.underlying69 RG rfl .i64 .i64 n V V w
def uI.two{w:World}(h:uI w):2<=w.heap.size:=by obtain⟨⟨m,a⟩,_⟩:=h;have:=xW _ _ a;exact dJ
def YJ(S:List Nd)(root:Int)(w:World)(e:Ending)(w':World):Prop:=∃(A':aft)(m c':Nat),e=.returned (.tuple #[.slice A' m c',.int .i64 (AU S root)])/\Rd w' w'.heap.size A' m (DD S root)/\m<=1000000000/\m<=c'/\afv w w'
def Tf(X:afu)(A:aft)(n c:Nat)(I:tJ w X A n S)(hX:∀b,X b->b<w.heap.size)(H:n<=100000000)(O:uI w)(W:∀x∈S,PH x):Calls Tryz.prog 9 #[.agg #[.slice A n c,.int .i64 root]] w (YJ S root w):=by
 have HL:=rz I.len;have B:=(afw w).al rV (sC A n c root);have b0:(w.alloc (sC A n c root)).cell? (rN w.heap.size 0)=some (.slice A n c):=bi;have b1:(w.alloc (sC A n c root)).cell? (rN w.heap.size 1)=some (.int .i64 root):=bi;have az:=B.s1;have c4:=O.two;go_enter Tryz.func9,Tryz.ntmps9;go_upto_region 1 with fail;generalize w.alloc _=w1 at*;have bz:=rz az;have cb:w.heap.size+1<=w1.heap.size:=V;clear az;have be:∀b,X b->b<w1.heap.size:=fun b hb=>bC
 have ar:=yp S root w1 X A n c (I.below B hX) be H (O.below B) W;go_wp2_with fail;refine sG ar fun cs C=> ?_
 clear ar;have a8:=B.trans (C.mono (B':=w.heap.size) V);have b2:=C.cl b0 V;have b3:=C.cl b1 V;have cc:=C.size;clear b0 b1 B C;cases z:ur S root with
 |false=>
  have l:AU S root=2:=by unfold AU;rw[z];rfl
  have hb:DD S root=[]:=by unfold DD;rw[l];rfl
  have v:=rz l;have t:=rz hb;clear z l hb I W;go_wp2_with fail;go_ret2;exact⟨none,0,0,by rw[v.out];rfl,by rw[t.out];exact Rd.nil _ _ _,V,V,a8⟩
 |true=>
  obtain⟨ok,bs,aU⟩:=BT z;subst bs;have aa:=Ub ok 33 0 _ aU;have bp:=H0 n H;have bn:=ok.le;rw[HL.out]at bn;have b7:=rz z;have K:=rz aa;clear aU z aa;go_upto_region 3 with fail;refine sT [0,1,2,3,4,5,6,7] [4,6] bm bm bA bm bt (fun wd F tj=> ?_);have d0:=F.cl b2 V;have d1:=F.cl b3 V;have a6:=a8.sY V F;have bw:w.heap.size<wd.heap.size:=V;have br:=I.below a6 hX;clear F tj b2 b3;refine aD ?_;refine tc rfl rfl (w.heap.size+1) V (fun b8 y=> ?_);go_wp2_with fail;have o:=(afw wd).al rV (.cells (madeCells #[.bool false] n) 4);have a0:=KR wd n wd.heap.size rfl;have YZ:=o.s1;refine y _ _ (o.mono V) ?_;clear y;have af:=br.below o bq;have a4:=a6.trans (o.mono (B':=w.heap.size) V);have b4:=o.cl d1 bw;clear o d0 d1;generalize wd.alloc _=a at*;refine aw ?_;refine tc rfl rfl (w.heap.size+1) V (fun b8 y=> ?_);go_wp2_with fail;have q:=(afw a).al rV (.cells #[.slice A n c,.int .i64 0,.slice (some ⟨wd.heap.size,0,none⟩) n n,.slice none 0 0] 71);refine y _ _ (q.mono V) ?_;clear y;have bO:=rz YZ;have cf:a.heap.size<=wd.heap.size+1:=V;have ch:wd.heap.size+1<=a.heap.size:=V;have bv:(a.alloc (.cells #[.slice A n c,.int .i64 0,.slice (some ⟨wd.heap.size,0,none⟩) n n,.slice none 0 0] 71)).heap.size=wd.heap.size+2:=by simp;omega
  have c0:(a.alloc (.cells #[.slice A n c,.int .i64 0,.slice (some ⟨wd.heap.size,0,none⟩) n n,.slice none 0 0] 71)).cell? (rN (wd.heap.size+1) 0)=some (.slice A n c):=iV;have c1:(a.alloc (.cells #[.slice A n c,.int .i64 0,.slice (some ⟨wd.heap.size,0,none⟩) n n,.slice none 0 0] 71)).cell? (rN (wd.heap.size+1) 1)=some (.int .i64 0):=iV;have c2:(a.alloc (.cells #[.slice A n c,.int .i64 0,.slice (some ⟨wd.heap.size,0,none⟩) n n,.slice none 0 0] 71)).cell? (rN (wd.heap.size+1) 2)=some (.slice (some ⟨wd.heap.size,0,none⟩) n n):=iV;have M:(a.alloc (.cells #[.slice A n c,.int .i64 0,.slice (some ⟨wd.heap.size,0,none⟩) n n,.slice none 0 0] 71)).cell? (rN (wd.heap.size+1) 3)=some (.slice none 0 0):=iV;have N:∀j,(a.alloc (.cells #[.slice A n c,.int .i64 0,.slice (some ⟨wd.heap.size,0,none⟩) n n,.slice none 0 0] 71)).frozen? (rN (wd.heap.size+1) j)=false:=fun j=>iV
  have cr:=q.cl b4 V;have an:=af.below q bq;have a5:=a4.trans (q.mono (B':=w.heap.size) V);have a1:=a0.keep (w':=a.alloc (.cells #[.slice A n c,.int .i64 0,.slice (some ⟨wd.heap.size,0,none⟩) n n,.slice none 0 0] 71)) (q.block _ V);clear YZ a0 b4 q af a4;generalize a.alloc _=m at*;have c3:=rz bv;have ci:m.heap.size<=wd.heap.size+2:=V;have cj:wd.heap.size+2<=m.heap.size:=V;have Z:LH m (wd.heap.size+1) wd.heap.size m.heap.size A n c 0 (List.replicate n false) []:=⟨none,0,0,⟨c0,c1,c2,M⟩,N,a1,yJ,Mem.Own.nil _ _,V,V,V,rZ _⟩;have Y:QM m (wd.heap.size+1) wd.heap.size m.heap.size A n S X:=⟨an,fun b hb=>bC,O.below a5,V,H⟩;have R:Met S 0 (List.replicate n false):=⟨io,fun i x cp H=>fu⟩;have E:=K.out.2 ([],List.replicate n false) R (by have:=ok.le;simp only[sl];omega) m (wd.heap.size+1) wd.heap.size m.heap.size A n c 0 X Y Z;have G:=(K.out.1.2.2 ([],List.replicate n false) R).2;have ad:Hq S=(CE S 34 0 ([],List.replicate n false)).1:=by unfold Hq;rw[HL.out]
  have a3:((0:Nat):Int).toNat=0:=rfl;rw[a3]at E G;simp only[sl]at G;rw[<-ad]at E G;have c5:(Hq S).length<=13000000:=by have:=ok.le;omega
  clear G K R Z c0 c1 c2 M N a1 ad a3 an bp;refine aw ?_;refine sQ ?_;go_wp2_with fail;refine sG E fun ct ⟨b6,b9,a2⟩=> ?_
  clear E;obtain⟨b5,r,bd,⟨c0,c1,c2,M⟩,N,_,_,U,c6,c8,c7,ck⟩:=b6;have T:=U.len;have bk:=U.cap;have a9:=a5.trans (a2.out (B':=w.heap.size) V V V);have bx:=rz T;have c9:r<=13000000:=V;have ab:AU S 0=if 20000<r then 3 else 0:=by unfold AU;rw[b7.out,rG rfl,T]
  have D:=rz ab;clear T ab W Y a2 b9;by_cases a7:20000<r
  ·have bj:(20000:Int)<(r:Int):=V;have l:AU S 0=3:=by rw[D.out,rG a7]
   have hb:DD S 0=[]:=by unfold DD;rw[l];rfl
   have v:=rz l;have t:=rz hb;clear l hb D;go_wp2_with fail;go_ret2;exact⟨none,0,0,by rw[v.out];rfl,by rw[t.out];exact Rd.nil _ _ _,V,V,a9⟩
  ·have bj:¬(20000:Int)<(r:Int):=V;have l:AU S 0=0:=by rw[D.out,rB a7]
   have hb:DD S 0=Hq S:=by unfold DD;rw[l,rG rfl]
   have v:=rz l;have t:=rz hb;clear l hb D;go_wp2_with fail;go_ret2;exact⟨b5,r,bd,by rw[v.out];rfl,by rw[t.out];exact U.rd,V,bk,a9⟩
def PX(S:List Nd)(root:Int):Int:=if AU S root=0 then Yh (DD S root)else 0
def Zk(X:afu)(A:aft)(n c:Nat)(D:tJ w X A n S)(hX:∀b,X b->b<w.heap.size)(C:n<=100000000)(v:uI w)(F:∀x∈S,PH x):Calls Tryz.prog 10 #[.agg #[.slice A n c,.int .i64 root]] w (vh w (.tuple #[.int .u64 (PX S root),.int .i64 (AU S root)])):=by
 obtain⟨k,d⟩:=sW (AU S root);obtain⟨p,a⟩:=sW (PX S root);rw[<-d,<-a];unfold PX at a;rw[<-d]at a;have t:=rz d;have o:=rz a;clear d a;have i:=(afw w).al rV (sC A n c root);have Q:(w.alloc (sC A n c root)).cell? (rN w.heap.size 0)=some (.slice A n c):=bi;have R:(w.alloc (sC A n c root)).cell? (rN w.heap.size 1)=some (.int .i64 root):=bi;have r:=i.s1;go_enter Tryz.func10,Tryz.ntmps10;go_upto_region 1 with fail;generalize w.alloc _=w1 at*;have I:=rz r;have O:w.heap.size+1<=w1.heap.size:=V;clear r;have y:∀b,X b->b<w1.heap.size:=fun b hb=>bC
 have l:=Tf S root w1 X A n c (D.below i hX) y C (v.below i) F;unfold YJ at l;rw[<-t.out]at l;go_wp2_with fail;refine l.mono ?_;rintro e' H ⟨A',m,c',rfl,E,B,N,z⟩;have q:=i.trans (z.mono (B':=w.heap.size) V);by_cases j:k=0
 ·subst j;obtain rfl:p=Yh (DD S root):=by rw[o.out,rG rfl]
  have G:=WX A' m c' _ (DD S root) H E B;go_wp2_with fail;refine tZ G ?_;go_wp2_with fail;go_ret2;exact⟨rfl,q⟩
 ·obtain rfl:p=0:=by rw[o.out,rB j]
  have K:(k==0)=false:=rA.2 j;have M:(k !=0)=true:=by simp[j]
  go_wp2_with fail;go_ret2;exact⟨rfl,q⟩
def Q8(o:w.cell? (rN g 2)=some (.int .i64 d))(p:w.frozen? (rN g 2)=false):Calls Tryz.prog 56 #[sg g,.bool j,.int .i64 k] w fun e w'=>e=.returned (.tuple #[])/\((sM j k d=d/\w'=w)\/w'=w.setCell ⟨g,2,none⟩ (.int .i64 (sM j k d))):=by
 obtain⟨R,a⟩:=sW (sM j k d);rw[<-a];unfold sM at a;have b:=rz a;clear a;go_enter Tryz.func56,Tryz.ntmps56;cases j with
 |false=>have a:=b.out;simp at a;clear b;subst a;exact iR
 |true=>
  by_cases i:d=0;·have a:=b.out;rw[rG ⟨rfl,i⟩]at a;clear b;subst a;subst i;go_wp2_with fail;refine uv (tR rfl _ _ _) rfl ?_;exact⟨rfl,.inr rfl⟩
  ·have a:=b.out;rw[rB (fun h=>i h.2)]at a;clear b;subst a;have l:(R==0)=false:=rA.2 i;have m:decide (R=0)=false:=rI i;exact iR
end
structure BW(w:World)(g:Nat)(A:aft)(n c:Nat)(e:Int):Prop where
 c0:w.cell? (rN g 0)=some (.slice A n c)
 c1:w.cell? (rN g 1)=some (.int .i64 0)
 c2:w.cell? (rN g 2)=some (.int .i64 e)
 fz:∀j,w.frozen? (rN g j)=false
 lt:g<w.heap.size
structure wx(w:World)(g:Nat)(own:Nat->Option Nat)(L:afu)(A:aft)(n c:Nat)(S:List Nd)(e:Int):Prop where
 cl:BW w g A n c e
 r:CK w g own L A n c S
 zL:uI w
 at_:2<=g
def Cx(w:World)(g:Nat)(A:aft)(n c:Nat)(e:Int)(w':World):Prop:=BW w' g A n c e/\sa g w.heap.size w w'
section
variable{w w':World}{g n c:Nat}{own:Nat->Option Nat}{L:afu}{A:aft}{S:List Nd}{e:Int}
def BW.keep(a:BW w g A n c e)(h:w.heap.size<=w'.heap.size)(d:w'.heap[g]? =w.heap[g]?):BW w' g A n c e:=have b:∀j,w'.cell? (rN g j)=w.cell? (rN g j):=fun j=>rK (w:=w) (a:=rN g j) d;⟨(b 0).trans a.c0,(b 1).trans a.c1,(b 2).trans a.c2,fun j=>(sP (w:=w) (a:=rN g j) d).trans (a.fz j),rS a.lt h⟩
def BW.below{B:Nat}(a:BW w g A n c e)(hb:Below B w w')(b:g<B):BW w' g A n c e:=a.keep hb.size (hb.block g b)
def BW.err(a:BW w g A n c e)(e':Int):BW (w.setCell ⟨g,2,none⟩ (.int .i64 e')) g A n c e':=by obtain⟨c0,c1,c2,fz,lt⟩:=a;exact⟨bi,bi,bi,fun j=>by have:=fz j;go_simp,by simpa using lt⟩
def yw{w w':World}(h:uI w)(hb:∀b,b<2->w'.heap[b]? =w.heap[b]?):uI w':=by
 obtain⟨⟨m,j⟩,o⟩:=h;have a:∀p:Addr,p.block<2->w'.cell? p=w.cell? p:=fun p k=>rK (w:=w) (hb _ k)
 exact⟨⟨m,(a ⟨1,0,none⟩ bA).trans j⟩,fun i l d=>(a ⟨0,i,none⟩ bA).trans (o i l d)⟩
def wx.off{e':Int}(a:wx w g own L A n c S e)(d:sa g w.heap.size w w')(i:BW w' g A n c e'):wx w' g own L A n c S e':=⟨i,a.r.keep d.size (fun b h j=>d.block b h j),yw a.zL (fun b hb=>d.block b (by have:=a.r.lt;exact iq) iq),a.at_⟩
def wx.Mg{L':afu}{e':Int}(a:wx w g own L A n c S e)(k:w.heap.size<=w'.heap.size)(hb:∀b,b<w.heap.size->b≠g->¬L b->w'.heap[b]? =w.heap[b]?)(d:∀b,L' b->(L b\/w.heap.size<=b)/\b<w'.heap.size)(i:BW w' g A n c e'):wx w' g own L' A n c S e':=⟨i,a.r.Mg k hb d,yw a.zL (fun b l=>hb b (by have:=a.r.lt;exact iq) iq (fun j=>by have:=(a.r.lo b j).1;exact iq)),a.at_⟩
def Cx.st{e':Int}(h:Cx w g A n c e' w')(a:wx w g own L A n c S e):wx w' g own L A n c S e':=a.off h.2 h.1
def wx.below(a:wx w g own L A n c S e)(hb:afv w w'):wx w' g own L A n c S e:=a.off (sa.of hb) (a.cl.below hb a.cl.lt)
def wx.yM(a:wx w g own L A n c S e)(hb:sa g w.heap.size w w'):D2 w w' g own own:=a.r.yM hb.size (fun b h d=>hb.block b h d) ⟨hb.env.1,hb.env.2.2⟩
def Cx.trans{w1:World}{e':Int}(h:sa g w.heap.size w w1)(a:Cx w1 g A n c e' w'):Cx w g A n c e' w':=⟨a.1,h.sY h.size a.2⟩
def wx.len(a:wx w g own L A n c S e):S.length=n:=a.r.row.elim fun _ r=>r.2.2.1
def WO(w:World)(g:Nat)(own:Nat->Option Nat)(L:afu)(S:List Nd)(r:Bn)(b:Ending)(w':World):Prop:=∃a A' n' c',b=.returned (.int .i64 r.1)/\wx w' g a L A' n' c' (S++r.2.1) r.2.2/\D2 w w' g own a
def ta(a:BW w g A n c e)(d:Bool)(b:Int):Calls Tryz.prog 56 #[sg g,.bool d,.int .i64 b] w fun i w'=>i=.returned (.tuple #[])/\Cx w g A n c (sM d b e) w':=by
 refine(Q8 d b e g w a.c2 (a.fz 2)).mono ?_;rintro i w' ⟨rfl,h|rfl⟩;·obtain⟨h,rfl⟩:=h;rw[h];exact⟨rfl,a,sa.refl _ _ _⟩
 ·exact⟨rfl,a.err _,(sa.refl g _ w).setAt 2 _⟩
end
def XF:(Tryz.prog.info? 79).map (fun i=>(i.zero,i.size,i.bytes))=some (some (.agg #[.int .i64 0,.string ⟨#[]⟩,.slice none 0 0,.slice none 0 0,.slice none 0 0,.bool false,.string ⟨#[]⟩,.int .i64 0,.int .i64 0,.slice none 0 0]),10,160):=bm
def zl(x:Nd)(m:aft)(t c1:Nat)(o:aft)(v p:Nat)(w:World)(g:Nat)(own:Nat->Option Nat)(L:afu)(A:aft)(n c:Nat)(S:List Nd)(E:Int)(a:wx w g own L A n c S E)(a3:YI w g own L x m t c1 o v p)(c8:x.fields=[])(hb:x.rX=[]):Calls Tryz.prog 158 #[sg g,nA x m t c1 none 0 0 o v p none 0 0] w (WO w g own L S (wi x (S.map td) E)):=by
 obtain⟨cz,F⟩:=sW (wi x (S.map td) E);rw[<-F];unfold wi at F;rw[tN,a.len]at F;obtain⟨T,C⟩:=sW (sM (decide (200<=n)) 3 E);rw[<-C]at F;have a2:T=0->n<200/\E=0:=by
  intro h;rw[C]at h;unfold sM at h;by_cases a6:200<=n
  ·by_cases r:E=0;·rw[rG ⟨by simpa using a6,r⟩]at h;omega
   ·rw[rB (fun a5=>r a5.2)]at h;exact absurd h r
  ·rw[rB (fun a5=>a6 (by simpa using a5.1))]at h;exact⟨V,h⟩
 have U:=rz F;clear F;have af:=wm.new w x m t c1 none 0 0 o v p none 0 0 w.heap.size rfl;have cb:w.heap.size<(w.alloc (nC x m t c1 none 0 0 o v p none 0 0)).heap.size:=bA;have b3:=(afw w).al rV (nC x m t c1 none 0 0 o v p none 0 0);go_enter Tryz.func158,Tryz.ntmps158;go_upto_region 1 with fail;generalize w.alloc _=w1 at*;have S1:=a.below b3;have aa:=a.yM (sa.of b3);have Y:=ta S1.cl (decide (200<=n)) 3;rw[<-C]at Y;have c0:=S1.cl.c0;have a9:=rz C;clear C;have b4:decide (200<=(n:Int))=decide (200<=n):=zK.2 V;rw[<-b4]at Y;clear b4;go_wp2_with fail;refine sG Y fun cf ⟨a8,H⟩=> ?_
 have S2:=S1.off H a8;clear Y c0 a8;have cZ:=a.r.lt;have c9:¬w.heap.size=g:=V;have an:=af.off H cb c9;have d1:w.heap.size<cf.heap.size:=by have:=H.size;omega
 have K2:=aa.trans (S1.yM H);clear S1 af aa H;by_cases r:T=0
 ·have N:=U.out;rw[rG r]at N;clear U;subst N;obtain⟨a6,cS⟩:=a2 r;clear a2;have C:=a9.out;clear a9 C;subst r;have c2:=S2.cl.c2;go_upto_region 4 with fail;clear c2;refine vO (K:=Kb (fun b=>b=g\/b=w.heap.size)) (Kb.keeps _) (sA.of [0,1,2,3,4,5,6,7,8,9,10,11] .nil) 12 (sA.of [] .nil) [7,8] [5,6] bm bm bF bm bt (fun wd O tj=> ?_);have M:=S2.below O;have Nd:=an.below O V;have d3:w.heap.size<wd.heap.size:=by have:=O.size;omega
  have ad:=K2.trans (S2.yM (sa.of O));clear O tj S2 an K2;have c3:=M.cl.c0;obtain⟨⟨ch,ci,cj,ck,cp,cr,ct,cv,cx,cy⟩,d5⟩:=Nd;repeat((first|(refine wM rfl rfl rfl rfl bo ?_)|(refine wO rfl rfl rfl rfl ?_)|(refine wN rfl rfl rfl rfl 0 rV _ (by intro w' hb;have d6:=(Kb.cell hb (q:=rN g 0) (by simp)).trans c3;have d7:=(Kb.cell hb (q:=rN w.heap.size 0) (by simp)).trans ch;have d9:=(Kb.cell hb (q:=rN w.heap.size 1) (by simp)).trans ci;have dd:=(Kb.cell hb (q:=rN w.heap.size 2) (by simp)).trans cj;have df:=(Kb.cell hb (q:=rN w.heap.size 3) (by simp)).trans ck;have di:=(Kb.cell hb (q:=rN w.heap.size 4) (by simp)).trans cp;have dj:=(Kb.cell hb (q:=rN w.heap.size 5) (by simp)).trans cr;have dp:=(Kb.cell hb (q:=rN w.heap.size 6) (by simp)).trans ct;have dr:=(Kb.cell hb (q:=rN w.heap.size 7) (by simp)).trans cv;have ds:=(Kb.cell hb (q:=rN w.heap.size 8) (by simp)).trans cx;have d8:=(Kb.cell hb (q:=rN w.heap.size 9) (by simp)).trans cy;clear hb;go_simp;first|done|with_reducible rfl) ?_));simp only[Act.put,rH,rC,rF])
  refine uC rfl rfl 0 rV (fun ar B=> ?_);go_wp2_with fail;have W:=(afw wd).al rV (nC x m t c1 none 0 0 o v p none 0 0);have bO:=wm.new wd x m t c1 none 0 0 o v p none 0 0 wd.heap.size rfl;refine B _ _ (Kb.below (fun b hb=>by have:=M.r.lt;omega) W) ?_;clear B;have i:=M.below W;have D:=ad.trans (M.yM (sa.of W));have d2:w.heap.size<(wd.alloc (nC x m t c1 none 0 0 o v p none 0 0)).heap.size:=by simp;omega
  clear M ad W;generalize wd.alloc _=G at*;obtain⟨cA,bv,bw,cc,bx⟩:=i.r.row;have b0:YI G g own L x m t c1 o v p:=⟨a3.1.keep (fun q a7=>rK (w:=w) (D.2 _ a7.1).1) (fun b hb=>⟨(D.2 b hb.1).2,hb.2⟩),a3.2.1.keep (fun q a7=>rK (w:=w) (D.2 _ a7.1).1) (fun b hb=>⟨(D.2 b hb.1).2,hb.2⟩),a3.2.2⟩;obtain⟨⟨b7,b8,b9,bd,be,bj,bk,bn,bp,br⟩,_⟩:=bO;have cW:=i.r.lt;refine aK ?_;refine uC rfl rfl 0 rV (fun ar B=> ?_);go_wp2_with(at_builtin;go_must(refine Dd (z:=.agg #[.int .i64 0,.string ⟨#[]⟩,.slice none 0 0,.slice none 0 0,.slice none 0 0,.bool false,.string ⟨#[]⟩,.int .i64 0,.int .i64 0,.slice none 0 0]) (bytes:=160) (cs:=U0 x m t c1 none 0 0 o v p none 0 0) rfl EI XF rfl V V rfl rfl bv rfl (by simp[U0,Value.oneCell']) (fun j u b6=>by rcases j with _|_|_|_|_|_|_|_|_|_|j<;>simp[U0]at b6<;>subst b6<;>first|exact b7|exact b8|exact b9|exact bd|exact be|exact bj|exact bk|exact bn|exact bp|exact br) V V ?_);intro A' c' l b5 Z b1);have a0:∀b,b=g\/b=w.heap.size->b<G.heap.size/\A.map (·.block)≠some b:=fun b hb=>⟨V,fun X=>by rw[a.r.hd]at X;have:=a.r.Fs 0 b X;omega⟩
  refine B _ _ (Kb.DZ a0 Z) ?_;clear B;obtain⟨bs,I,a1⟩:=i.r.fresh bw bx b5 Z b1 b0 c8 hb V;have R:=Z.2 g (a0 g (.inl rfl)).1 (a0 g (.inl rfl)).2;have c5:=(rK (w:=G) (w':=l) (a:=rN g 1) R).trans i.cl.c1;have c6:=(rK (w:=G) (w':=l) (a:=rN g 2) R).trans i.cl.c2;have c4:=(rK (w:=G) (w':=l) (a:=rN g 0) R).trans i.cl.c0;have aU:∀j,l.frozen? (rN g j)=false:=fun j=>(sP (w:=G) (w':=l) (a:=rN g j) R).trans (i.cl.fz j)
  have b2:uI l:=yw i.zL fun b hb=>(a1.2 b ⟨by have:=i.at_;omega,by have:=i.at_;omega,fun k X=>by have:=i.r.Fs k _ X;have:=i.at_;omega⟩).1
  have c7:=i.at_;have d0:=i.len;have ab:=D.trans a1;clear a0 R b0 D a1 i bv bw cc bx b7 b8 b9 bd be bj bk bn bp br b5 Z b1;refine aK ?_;refine Az rfl (fun ar B=> ?_);go_wp2_with fail;refine B _ _ trivial ?_;clear B;refine sF ?_;have y:sa g l.heap.size l (l.setCell ⟨g,0,none⟩ (.slice A' (n+1) c')):=(sa.refl g _ l).setAt 0 _;have az:wx (l.setCell ⟨g,0,none⟩ (.slice A' (n+1) c')) g bs L A' (n+1) c' (S++[x]) 0:=⟨⟨bi,bi,bi,fun j=>by have:=aU j;go_simp,by have:=I.lt;exact eV⟩,I.keep y.size (fun b h a4=>y.block b h a4),yw b2 (fun b hb=>y.block b (by have:=I.lt;omega) V),c7⟩;have bz:=ab.trans (I.yM y.size (fun b h a4=>y.block b h a4) ⟨y.env.1,y.env.2.2⟩);clear I ab y c4 c5 c6 aU b2;generalize l.setCell _ _=d4 at*;have c0:=az.cl.c0;go_wp2_with fail;go_ret;refine⟨bs,A',n+1,c',?_,az,bz⟩;simp
 ·have N:=U.out;rw[rB r]at N;clear U;subst N;clear a2;have cE:(T==0)=false:=rA.2 r;have cR:decide (T=0)=false:=rI r;have c2:=S2.cl.c2;exact jt
