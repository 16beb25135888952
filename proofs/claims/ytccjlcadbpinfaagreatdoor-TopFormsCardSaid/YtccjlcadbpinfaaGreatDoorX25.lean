import Derived.Test.YtccjlcadbpinfaaGreatDoorX23
import Derived.Test.YtccjlcadbpinfaaGreatDoorX24
set_option linter.all false
set_option maxRecDepth 100000
set_option maxHeartbeats 16000000
namespace Go.Proofs.YtccjlcadbpinfaaGreatDoor.Tp
open ChangeShapes WideShapes ChangeAt RowKit
open Num Mem Can
section
variable{b:Bool}{c e:Int}(h:Int)(f:Nat){w:World}(S:List Nd)(a:Nat)(k root:Int){j:J}(x n:Nd)
def yA(S:List Nd):Nat->List Nd->List Int->List acM->Bool
 |_,[],_,a=>Cg vQ a
 |i,x::r,kn,a=>uZ S x&&(decide ((Gb S (S.length+1) i kn).1<=1000)&&yA S (i+1) r (Gb S (S.length+1) i kn).2 (if sf x.kind=true then a++[x.name]else a))
def um(S:List Nd)(root:Int):Bool:=vR S root&&yA S 0 S (List.replicate S.length 0) []
def BU{S:List Nd}:∀(l:List Nd)(i:Nat)(kn:List Int)(d:List acM),yA S i l kn d=true->(∀x∈l,uZ S x=true)/\Cg vQ (d++(l.filter fun x=>sf x.kind).map (·.name))=true
 | [],i,kn,d,h=>⟨bi,by simpa[yA]using h⟩
 |x::r,i,kn,d,h=>
 by
  simp only[yA,rG]at h;obtain⟨g,a⟩:=BU r _ _ _ h.2.2;refine⟨fun y e=> ?_,?_⟩
  ·rcases sg.1 e with rfl|e;·exact h.1
   ·exact g y e
  ·cases b:sf x.kind with
   |true=>rw[b,rv rfl,rX]at a;simpa[b]using a
   |false=>rw[b]at a;simpa[b]using a
def Nn{p:acM->Bool}{l:List acM}(h:Cg p l=true):l.Pairwise (·≠·):=by rw[zu];intro i j d b e a;have:=(CY (p:=p) (all:=l) l 0 rfl h j l[j] (ry b)).2;rw[sY,<-By,yf]at this;apply this;rw[<-a];have:(l.take j)[i]'(by simp;omega)=l[i]:=bi;rw[<-this];exact rY _
def EP{S:List Nd}{root:Int}(h:um S root=true):KZ S/\root=0/\wU S 33 0=some S.length:=by
 unfold um at h;rw[rG]at h;obtain⟨a,o⟩:=h;obtain⟨m,n⟩:=BU _ _ _ _ o;have b:=Nn n;rw[sd,List.pairwise_map,List.pairwise_filter,zu]at b;unfold vR at a;simp only[rG,rQ]at a;refine⟨⟨m,?_,a.2.1⟩,a.2.2.1,a.2.2.2⟩;intro i j x y p q k l d;obtain⟨e,rfl⟩:=rK.1 p;obtain⟨g,rfl⟩:=rK.1 q;rcases Nat.lt_trichotomy i j with h|h|h;·exact absurd d (b i j e g h k l)
 ·exact h
 ·exact absurd d.symm (b j i g e h l k)
def Nh{S:List Nd}(h:um S 0=true)(g:(x8 S 34 [] 0 (List.replicate S.length false,false)).2.2=false)(F:Nat)(b:SizeOf.sizeOf (x8 S 34 [] 0 (List.replicate S.length false,false)).1<F):tN F (x8 S 34 [] 0 (List.replicate S.length false,false)).1 [] [] 0=(0,S,0):=by obtain⟨ok,_,j⟩:=EP h;obtain⟨_,_,d⟩:=Rf ok 33 0 _ j 34 [] rfl;obtain⟨_,a⟩:=d (List.replicate S.length false) ⟨bi,fun i x l k=>eY⟩ g;have:=a F b;have e:sW S 0=[]:=rfl;rw[e]at this;exact fg
def y9(f:Fd):Fd:={f with aliases:=[],has:=false,sO:=J.zero}
def ud(x:Nd):Nd:={x with aliases:=[],has:=false,sO:=[],fields:=x.fields.map y9}
def vT(S:List Nd):List Nd:=S.map ud
def CN:(vT S)[a]? =(S[a]?).map ud:=tz ..
def zW:(vT S).length=S.length:=sD ..
def Og:ti (ud x)=ti x:=by
 have:(x.fields.map y9).map (·.type)=x.fields.map (·.type):=by rw[Gi];rfl
 unfold ti ud;simp only[this]
def Fp(S:List Nd)(d e:Nat->Option Nat)(h:∀a,d a=e a):∀(ks:List Int)(b:Nat),zm (vT S) d ks b=zm S e ks b
 | [],b=>rfl
 |k::ks,b=>by have g:=Fp S d e h ks;simp only[zm,h,g,CN];cases S[k.toNat]?<;>rfl
def Oi:∀(f a:Nat),wU (vT S) f a=wU S f a:=by
 intro f;induction f with
 |zero=>intro a;rfl
 |succ f b=>
  intro a;simp only[wU,CN];cases S[a]? with
  |none=>rfl
  |some x=>simp only[uj,Og,Fp S _ _ b]
def Ir:vR (vT S) root=vR S root:=by unfold vR;rw[Oi,zW]
def Jd(b d:Nat->List Int->Int×List Int)(h:∀a kn,b a kn=d a kn):∀(l:List Fd)(n:Int)(kn:List Int),MJ b (l.map y9) n kn=MJ d l n kn
 | [],n,kn=>rfl
 |f::r,n,kn=>by have e:=Jd b d h r;simp only[uH,MJ,e,h];rfl
def Rl:U9 (ud x)=(U9 x).map y9:=by unfold U9 ud;simp only;split<;>rfl
def Mp:∀(f a:Nat)(kn:List Int),Gb (vT S) f a kn=Gb S f a kn:=by
 intro f;induction f with
 |zero=>intro a kn;rfl
 |succ f b=>
  intro a kn;simp only[Gb,CN];cases kn[a]? with
  |none=>rfl
  |some v=>
   cases S[a]? with
   |none=>rfl
   |some x=>simp only[uj,Rl,Jd _ _ b]
def Eb:xU (vT S) k=xU S k:=by unfold xU;rw[CN];cases S[k.toNat]?<;>rfl
def Fq(S:List Nd)(all:List Int):∀(l:List Int)(j:Nat),AY (vT S) all j l=AY S all j l
 | [],j=>rfl
 |k::r,j=>
 by
  have a:=Fq S all r;have:Cf (vT S) (xU S k) k=Cf S (xU S k) k:=by funext m;unfold Cf;rw[Eb]
  simp only[AY,a,Eb,this]
def SK{l:List acM}(h:Cg wa l=true):l.contains []=false:=by rw[<-By,yf];intro b;obtain⟨i,a⟩:=yO b;have:=(CY (p:=wa) (all:=l) l 0 rfl h i [] a).1;simp[wa,xN]at this
def Oh(h:uZ S x=true):uZ (vT S) (ud x)=true:=by
 unfold uZ at*;simp only[rG]at*;obtain⟨t,v,y,a⟩:=h;refine⟨t,?_,?_,?_⟩
 ·unfold Ce xX at*;unfold ud;simp only[rG,wV,Bv,Bool.or_eq_false_iff,sc,sD]at*;obtain⟨⟨⟨⟨⟨e,i⟩,j⟩,k⟩,l⟩,m⟩:=v;refine⟨⟨⟨⟨⟨?_,i⟩,?_⟩,k⟩,l⟩,m⟩
  ·rcases e with h|h;·exact .inl h
   ·exact .inr ⟨h.1,bi⟩
  ·rcases j with h|h;·exact .inl h
   ·exact .inr ⟨⟨h.1.1,trivial⟩,bi⟩
 ·unfold D8 at*;unfold ud;simp only[wN,rG]at*;rcases y with h|h;·exact .inl h
  ·exact .inr ⟨h.1,h.2.1,by simp[Ie]⟩
 ·unfold kindOk at*;have n:(ud x).kind=x.kind:=rfl;have o:(ud x).size=x.size:=rfl;have p:(ud x).rR=x.rR:=rfl;rw[n,o,p];by_cases d:x.kind=9
  ·rw[rv d]at a|-;unfold yo at*;simp only[rG,vY,rQ]at*;have q:(ud x).fields=x.fields.map y9:=rfl;have r:(x.fields.map y9).map (·.name)=x.fields.map (·.name):=by rw[Gi];rfl
   rw[q,r,sD];refine⟨?_,a.2⟩;intro f z;obtain⟨g,_,rfl⟩:=sR.1 z;rfl
  ·rw[ru d]at a|-;by_cases b:x.kind=10;·rw[rv b]at a|-;unfold II at*;unfold ud;simp only[rG,rQ]at*;refine⟨⟨?_,bi⟩,a.2⟩;exact(SK a.2.2.2).symm
   ·rw[ru b]at a|-;split;·rename_i h;rw[rv h]at a;exact a
    ·rename_i h;rw[ru h]at a;split;·rename_i h;rw[rv h]at a;unfold B9 at*;rw[Fq];exact a
     ·rfl
def Mn(S:List Nd):∀(l:List Nd)(i:Nat)(kn:List Int)(a:List acM),yA S i l kn a=true->yA (vT S) i (l.map ud) kn a=true
 | [],i,kn,a,h=>h
 |x::r,i,kn,a,h=>
 by
  simp only[yA,uH,rG]at h|-;refine⟨Oh S x h.1,?_,?_⟩;·rw[Mp,zW];exact h.2.1
  ·rw[Mp,zW];exact Mn S r _ _ _ h.2.2
def Mo{S:List Nd}{root:Int}(h:um S root=true):um (vT S) root=true:=by unfold um at*;rw[rG]at*;refine⟨by rw[Ir];exact h.1,?_⟩;rw[zW];exact Mn S S _ _ _ h.2
def yQ(w:World)(X:acO)(A:acN)(n c:Nat)(be:tV w X A n S)(hX:∀b,X b->b<w.heap.size)(a8:n<=100000000)(ar:vE w)(dz:∀x∈S,MG x):Calls Tryz.prog 31 #[.agg #[.slice A n c,.int .i64 root]] w fun e w'=>e=.returned (.bool (um S root))/\Below w.heap.size w w':=by
 have d8:=be.len;obtain⟨R,o⟩:∃R,R=um S root:=⟨_,rfl⟩;rw[<-o];unfold um at o;have a5:=rq o;have HL:=rq d8;clear o d8;have b1:=(acQ w).al rT (sC A n c root);have dK:(w.alloc (sC A n c root)).cell? ⟨w.heap.size,0,none⟩=some (.slice A n c):=bf;have dM:(w.alloc (sC A n c root)).cell? ⟨w.heap.size,1,none⟩=some (.int .i64 root):=bf;have dB:w.heap.size<(w.alloc (sC A n c root)).heap.size:=bi;go_enter Tryz.func31,Tryz.ntmps31;go_upto_region 1 with fail;generalize w.alloc (sC A n c root)=w1 at*;have dk:=Fk S root w1 X A n c (be.below b1 hX) (fun b hb=>bl) a8;go_wp2_with fail;refine dk.mono ?_;rintro e' g ⟨rfl,O⟩;clear dk;have e7:=(O.cell (p:=⟨w.heap.size,0,none⟩) dB).trans dK;have e8:=(O.cell (p:=⟨w.heap.size,1,none⟩) dB).trans dM;have AZ:=b1.sV V O;have gx:=O.size;clear dK dM b1 O;cases N:vR S root with
 |false=>
  obtain rfl:R=false:=by rw[a5.out,N];rfl
  clear a5 N;exact bR
 |true=>
  have ho:=Dy N;rw[HL.out]at ho;have d7:=yy (S:=S) j8;have d6:=Bq (S:=S) j8;rw[HL.out]at d7 d6;have o:=a5.out;rw[N,rU,HL.out]at o;have bz:=rq o;have g0:=Pk n a8;have dp:=be.below AZ hX;have ct:=ar.below AZ;clear o a5 N ho;go_upto_region 5 with fail;have B:=(acQ g).al rT (.cells (madeCells #[.int .i64 0] n) 3);have bO:=Ts g n g.heap.size rfl;have gz:(g.alloc (.cells (madeCells #[.int .i64 0] n) 3)).heap.size=g.heap.size+1:=bi;have bj:=dp.below B (fun b hb=>bl);have b3:=AZ.trans (B.mono (B':=w.heap.size) V);have gi:=ct.below B;have u0:=(B.cell (p:=⟨w.heap.size,0,none⟩) bd).trans e7;have a0:=(B.cell (p:=⟨w.heap.size,1,none⟩) bd).trans e8;clear e7 e8 g0 B dp ct;generalize g.alloc (.cells (madeCells #[.int .i64 0] n) 3)=l at*;have g5:uY MF 9 1 nS nS l l.heap.size none 0 0 ([]:List acM):=uY.nil _ _ _ _ _ _ _;have aU:∀b,X b->b<l.heap.size/\b≠g.heap.size:=fun b hb=>bl
  go_wp2_with fail;go_loopw [3,17] (fun gb bx wr=>∃(j m M:Nat)(H:acN)(kn:List Int)(t:List acM),bx=.int .i64 j/\j<=n/\gb=.slice H m M/\m<=j/\uY MF 9 1 nS nS wr l.heap.size H m M t/\Ov wr g.heap.size kn/\RW kn/\kn.length=n/\(∀a∈t,a.length<=100000000)/\R=yA S j (S.drop j) kn t/\rS g.heap.size l.heap.size l wr) (fun _ bx _=>n-(intOf bx).toNat);case atStart=>exact⟨0,0,0,none,_,[],rfl,rO _,rfl,rO _,g5,bO,Tf n,yg,bi,bz.out,rS.refl _ _ _⟩
  case
   round=>
    obtain⟨j,m,M,H,kn,t,rfl,gr,rfl,gs,Q,cy,d5,dd,b8,b9,C⟩:=hrel;have a4:=rq b9;have a3:=rq dd;have h1:=C.size;have bk:=bj.off C aU;have e9:=(C.cell (p:=⟨w.heap.size,0,none⟩) bd bd).trans u0;have ea:=(C.cell (p:=⟨w.heap.size,1,none⟩) bd bd).trans a0;have vu:=b3.trans (C.below (B':=w.heap.size) V V);have cx:=ar.below vu;clear b9 dd bz bO u0 a0;by_cases Ar:j<n
    ·have fm:(j:Int)<(n:Int):=V;have a7:j<S.length:=cZ;obtain⟨q,p,x,D,U,c1,E,W,c2,F,Y,K,G,Z,L,rfl,b9,bp,⟨em,en,er,es,et,f0,f1,f2,f3,f4⟩,⟨dN,e1,e3,e5⟩,⟨gl,gn,f9,fb⟩,g1,g2,g3,g4⟩:=uW bk Ar;have br:S[j]=x:=by rw[ry a7]at bp;injection bp
     have b7:x∈S:=br▸rY a7;have d:=a4.out;rw[rH a7,br,yA]at d;have a1:=rq d;have i:=(acQ wr).al rT (nC x D U c1 E W c2 F Y K G Z L);have bs:=C.trans (rS.of (i.mono (B':=l.heap.size) V));have c4:=wY.new wr x D U c1 E W c2 F Y K G Z L wr.heap.size rfl;have g7:wr.heap.size<(wr.alloc (nC x D U c1 E W c2 F Y K G Z L)).heap.size:=bi;have d3:=Q.below ui i;have cz:=cy.below i V;have fn:x.kind=13->∀k∈x.rR,0<=k/\k<(n:Int):=d6 x b7;have dI:=dz x b7;clear bp br d a4 Q cy a7 b7;go_upto_region 8 with fail;generalize wr.alloc (nC x D U c1 E W c2 F Y K G Z L)=gc at*;clear em en er es et f0 f1 f2 f3 f4;have d2:=vu.trans (i.mono (B':=w.heap.size) V);have g6:=bj.off bs aU;have e0:=Row.below dN i (fun b hb=>bl);have e2:=e1.below i (fun b hb=>bl);have e4:=Row.below e3 i (fun b hb=>bl);have e6:=Row.below e5 i (fun b hb=>bl);have ef:=(i.cell (p:=⟨w.heap.size,0,none⟩) bd).trans e9;have eg:=(i.cell (p:=⟨w.heap.size,1,none⟩) bd).trans ea;have f5:=ar.below d2;have dj:=TH S root x gc X _ n c D U c1 E W c2 F Y K G Z L g6 e0 e2 e4 e6 f9 fb g1 g2 g3 g4 a8 (fun b hb=>bl) f5 dI fn;clear dN e1 e3 e5 e0 e2 e4 e6 e9 ea i bk cx;have d0:=c4;obtain⟨⟨c8,c9,cb,cc,cf,ch,ci,cj,cl,cp⟩,cr⟩:=c4;go_wp2_with fail;refine dj.mono ?_;rintro e' eb ⟨rfl,r⟩;clear dj c8 c9 cb cc cf ch ci cj cl cp cr;have c5:=wY.below d0 r g7;have u0:=(r.cell (p:=⟨w.heap.size,0,none⟩) bd).trans ef;have a0:=(r.cell (p:=⟨w.heap.size,1,none⟩) bd).trans eg;have d4:=d3.below ui r;have cS:=cz.below r V;have ac:=bs.trans (rS.of (r.mono (B':=l.heap.size) V));have gA:=r.size;have f6:=b3.trans (ac.below (B':=w.heap.size) V V);clear ef eg d3 cz d0;cases aa:uZ S x with
     |false=>have d:=a1.out;rw[aa,tx]at d;subst d;clear a1 aa;go_wp2_with fail;go_ret;exact⟨rfl,f6⟩
     |true=>
      have d:=a1.out;rw[aa,rU,HL.out]at d;have I:=rq d;clear d a1 aa r bs d2;have dr:=bj.off ac aU;have d1:∀b,X b->b<eb.heap.size/\b≠g.heap.size:=fun b hb=>bl
      have bn:=HZ S root g.heap.size _ n c X a8 d7 (n+1) j kn eb (by have:=YF kn;rw[a3.out]at this;omega) d5 a3.out Ar dr cS V d1;have T:=UR S (n+1) j kn d5;have d9:=T.len;have b6:=T.RI;have fs:=T.lo;have fi:=T.hi;have df:(Gb S (n+1) j kn).2.length=n:=d9.trans a3.out;clear T d9;generalize Gb S (n+1) j kn=P at*;have ak:=rq df;clear df a3;obtain⟨an,c7⟩:=P;simp only at bn b6 fs fi ak I;go_wp2_with fail;refine bn.mono ?_;rintro e' ad ⟨rfl,c3,v⟩;clear bn;have c6:=wY.off c5 v V V;have h3:=(v.cell (p:=⟨w.heap.size,0,none⟩) bd bd).trans u0;have h4:=(v.cell (p:=⟨w.heap.size,1,none⟩) bd bd).trans a0;have b5:=d4.off ui v V (by intro h;exact h);have bv:=ac.trans (v.mono (B':=l.heap.size) V);have h0:=v.size;have f7:=b3.trans (bv.below (B':=w.heap.size) V V);clear u0 a0 d4 cS c5 ac v dr d1;by_cases ab:an<=1000;rotate_left;·have g8:(1000:Int)<an:=V;have d:=I.out;rw[rF ab,tx]at d;subst d;clear I ab;go_wp2_with fail;go_ret;exact⟨rfl,f7⟩
      have g8:¬(1000:Int)<an:=V;have d:=I.out;rw[rP ab,rU]at d;have a2:=rq d;clear d I ab;have di:=ve x.kind ad;have gk:=c6;obtain⟨⟨c8,c9,cb,cc,cf,ch,ci,cj,cl,cp⟩,cr⟩:=c6;go_wp2_with fail;refine di.mono ?_;rintro e' h2 ⟨rfl,rfl⟩;clear di;cases a9:sf x.kind with
      |false=>have d:=a2.out;rw[a9,ru bi]at d;have af:=rq d;clear d a2 a9;go_wp2_with fail;refine⟨⟨j+1,m,M,H,c7,t,bi,V,rfl,V,b5,c3,b6,ak.out,b8,af.out,bv⟩,?_⟩;exact bK
      |true=>
       have d:=a2.out;rw[a9,rv rfl]at d;have af:=rq d;clear d a2 a9;have b2:=(acQ ad).al rT (.cells #[.string ⟨x.name.toArray⟩] 9);have fj:=b5.below ui b2;have f8:=b5.block;go_wp2_with(at_builtin;go_must(refine tX (z:=.string ⟨#[]⟩) (bytes:=16) (H1:=ad.heap.size) (y:=x.name) (cs:=[sv x.name]) rfl tL yu rfl V V ui rfl rfl fj rfl V (fun b hb=>by have:=(f8 b hb).2.1;omega) (fun b hb=>fA) (fun b hb=>fA) (fun j u hu=>dS) V (by simp;omega) ?_);intro ei el gd fl a6 go gf);have g9:=(bv.trans (rS.of (b2.mono (B':=l.heap.size) V))).trans (rS.of a6);have ek:=(c3.below b2 V).below a6 V;refine⟨⟨j+1,m+1,el,ei,c7,t++[x.name],bi,V,rfl,V,fl,ek,b6,ak.out,?_,af.out,g9⟩,?_⟩
       ·intro a b0;rcases sl.1 b0 with h|h;·exact b8 a h
        ·rw[sH]at h;rw[h];exact dI.name
       ·exact bK
    ·obtain rfl:j=n:=V;have d:=a4.out;rw[th cK,yA]at d;have ds:=CF Q;have ff:=Q.cap;have b4:=AR 46 (enters_of U0 bg rfl) vQ t wr _ H m M ds (fun b hb=>hb.2) V ff (fun a b0 w' hb=>GV cx rfl t b8 a b0 w' hb);rw[<-d]at b4;have fm:¬(j:Int)<(j:Int):=V;clear a4 Q ds dz d bk;go_wp2_with fail;refine b4.mono ?_;rintro e' gd ⟨rfl,a6⟩;clear b4;go_wp2_with fail;go_ret;exact⟨rfl,vu.trans (a6.mono jq)⟩
def Bw.inv{X:acO}{f:Fd}{s t:ByteArray}{a B B':acN}{n c m d e b:Nat}{ty k i:Int}{j:Bool}(h:Bw w X [.string s,.slice a n c,.int .i64 ty,.bool j,.int .i64 k,.int .i64 i,.string t,.slice B m d,.slice B' e b] f):Row w X 1 a n (uF f.aliases)/\n<=c/\n<=100000000/\uf w X (jv k i t B m d B' e b) f.sO:=by
 generalize g:[Value.string s,.slice a n c,.int .i64 ty,.bool j,.int .i64 k,.int .i64 i,.string t,.slice B m d,.slice B' e b]=cs at h;cases h with
 |mk l o p q=>simp only[List.cons.injEq,P1,Value.int.injEq,Value.string.injEq,Value.bool.injEq,true_and,and_true]at g;obtain⟨_,⟨rfl,rfl,rfl⟩,_,_,rfl,rfl,rfl,⟨rfl,rfl,rfl⟩,rfl,rfl,rfl⟩:=g;exact⟨l,o,p,q⟩
def Fu.inv{X:acO}{x:Nd}{s t:ByteArray}{g i j k:acN}{a c1 b c2 d l e m:Nat}{q r p:Int}{o:Bool}(h:Fu w X [.int .i64 q,.string s,.slice g a c1,.slice i b c2,.slice j d l,.bool o,.string t,.int .i64 r,.int .i64 p,.slice k e m] x):(Row w X 1 g a (uF x.aliases)/\yJ w X i b x.fields/\Row w X 1 j d (uF x.symbols)/\Row w X 1 k e (yI x.rR))/\(a<=c1/\b<=c2/\d<=l/\e<=m)/\a<=100000000/\b<=100000000/\d<=100000000/\e<=100000000:=by
 generalize n:[Value.int .i64 q,.string s,.slice g a c1,.slice i b c2,.slice j d l,.bool o,.string t,.int .i64 r,.int .i64 p,.slice k e m]=cs at h;cases h with
 |mk F G H I B C D E v y z A=>simp only[List.cons.injEq,P1,Value.int.injEq,Value.string.injEq,Value.bool.injEq,true_and,and_true]at n;obtain⟨_,_,⟨rfl,rfl,rfl⟩,⟨rfl,rfl,rfl⟩,⟨rfl,rfl,rfl⟩,_,_,_,_,rfl,rfl,rfl⟩:=n;exact⟨⟨F,G,H,I⟩,⟨B,C,D,E⟩,v,y,z,A⟩
def NT(full:acM)(x:Nd):Bool:=sf x.kind&&decide (x.name=full)
def Lz(full:acM):∀(l:List Nd)(i:Nat),yS full i (l.map sQ)=EI (NT full) i l
 | [],i=>rfl
 |x::r,i=>
 by
  have e:yS full i ((x::r).map sQ)=if NT full x=true then(i:Int)else yS full (i+1) (r.map sQ):=rfl;rw[e];by_cases h:NT full x=true;·rw[rv h,LK (p:=NT full) h]
  ·rw[ru h,IV (p:=NT full) dC];exact Lz full r (i+1)
def Ql(full:acM)(l:List Nd):zH (l.map sQ) full=xz (NT full) l:=by unfold zH;rw[Lz,zT]
def PH(b:acN)(l c1:Nat)(d:acN)(m c2:Nat)(g:acN)(n j:Nat)(i:acN)(o k:Nat)(full:acM)(r:Nat)(w:World)(v:w.cell? ⟨r,0,none⟩=some (.string ⟨full.toArray⟩))(B:r<w.heap.size):Calls Tryz.prog 205 #[nA x b l c1 d m c2 g n j i o k,.pointer (some ⟨r,0,none⟩)] w fun e w'=>e=.returned (.bool (sf x.kind&&decide (x.name=full)))/\Below w.heap.size w w':=by
 have tm:=(acQ w).al rT (nC x b l c1 d m c2 g n j i o k);have z:=wY.new w x b l c1 d m c2 g n j i o k w.heap.size rfl;have Q:(w.alloc (nC x b l c1 d m c2 g n j i o k)).heap.size=w.heap.size+1:=bi;have O:=(tm.cell (p:=⟨r,0,none⟩) B).trans v;obtain⟨R,a⟩:∃R,R=(sf x.kind&&decide (x.name=full)):=⟨_,rfl⟩;rw[<-a];have q:=rq a;clear a v;go_enter Tryz.func205,Tryz.ntmps205;go_upto_region 1 with fail;generalize w.alloc (nC x b l c1 d m c2 g n j i o k)=w1 at*;have y:=ve x.kind w1;obtain⟨⟨C,D,E,F,G,H,I,K,L,M⟩,N⟩:=z;go_wp2_with fail;refine y.mono ?_;rintro e' S ⟨rfl,rfl⟩;clear y;cases t:sf x.kind with
 |false=>
  obtain rfl:R=false:=by rw[q.out,t];rfl
  clear q t;exact bL
 |true=>
  have a:=q.out;rw[t,rU]at a;have A:R=(x.name==full):=by rw[a];by_cases h:x.name=full<;>simp[h]
  clear q t a;subst A;exact bL
def KQ(full:acM)(w:World)(X:acO)(A:acN)(n c:Nat)(g:tV w X A n S)(hX:∀b,X b->b<w.heap.size)(t:n<=100000000):Calls Tryz.prog 160 #[.agg #[.slice A n c,.int .i64 root],.string ⟨full.toArray⟩] w fun e w'=>e=.returned (.int .i64 (zH (S.map sQ) full))/\Below w.heap.size w w':=by
 have tm:=((acQ w).al rT (sC A n c root)).alloc bi (.cells #[.string ⟨full.toArray⟩] 9);have F:((w.alloc (sC A n c root)).alloc (.cells #[.string ⟨full.toArray⟩] 9)).cell? ⟨w.heap.size,0,none⟩=some (.slice A n c):=bf;have C:((w.alloc (sC A n c root)).alloc (.cells #[.string ⟨full.toArray⟩] 9)).cell? ⟨w.heap.size+1,0,none⟩=some (.string ⟨full.toArray⟩):=bf;have i:((w.alloc (sC A n c root)).alloc (.cells #[.string ⟨full.toArray⟩] 9)).heap.size=w.heap.size+2:=bi;obtain⟨d,a⟩:∃d,d=zH (S.map sQ) full:=⟨_,rfl⟩;rw[<-a];rw[Ql]at a;go_enter Tryz.func160,Tryz.ntmps160;go_upto_region 1 with fail;generalize(w.alloc (sC A n c root)).alloc (.cells #[.string ⟨full.toArray⟩] 9)=w1 at*;have D:=rq i;have E:w.heap.size+2<=w1.heap.size:=V;clear i;have r:∀b,X b->b<w1.heap.size:=fun b hb=>bl
 have hq:=MU 205 (enters_of Tryz.func205 bg rfl) #[.pointer (some ⟨w.heap.size+1,0,none⟩)] (NT full) S w1 X A n c (g.below tm hX) r t (fun x _ j v c1 k y c2 l z o m B q w' _ hb=>PH x j v c1 k y c2 l z o m B q full (w.heap.size+1) w' ((hb.cell (p:=⟨w.heap.size+1,0,none⟩) bd).trans C) dE);rw[<-a]at hq;clear a;clear g;exact mW
def Jc(h:Int):Int:=if(Go.bits BinOp.and IntKind.u64 h 1==1)=true then Go.bits BinOp.xor IntKind.u64 (h/2) 13933329357911598997 else h/2
def Fo:Nat->Int->Int
 |0,h=>h
 |n+1,h=>Fo n (Jc h)
def Hf:Int->acM->Int
 |h,[]=>h
 |h,c::r=>Hf (Fo 8 (Go.bits BinOp.xor IntKind.u64 h (c.toNat:Int))) r
def Ud(w:World):Calls Tryz.prog 131 #[.int .u64 h] w fun e w'=>e=.returned (.int .u64 (Jc h))/\w=w':=by
 obtain⟨R,a⟩:∃R,R=Jc h:=⟨_,rfl⟩;rw[<-a];unfold Jc at a;have b:=rq a;clear a;go_enter Tryz.func131,Tryz.ntmps131;go_wp2_with fail;all_goals go_ret
 ·rename_i hb;have h:=b.out;rw[rv hb]at h;exact⟨by rw[h];rfl,rfl⟩
 ·rename_i hb;have h:=b.out;rw[ru (by simp[hb])]at h;exact⟨by rw[h];rfl,rfl⟩
def Se(A:acN)(n c B:Nat)(xs:acM)(w:World)(C:Rd w B A n xs)(X:n<=1000000000):Calls Tryz.prog 72 #[.int .u64 h,.slice A n c] w fun e w'=>e=.returned (.int .u64 (Hf h xs))/\w=w':=by
 have K:=C.len;obtain⟨R,l⟩:∃R,R=Hf h xs:=⟨_,rfl⟩;rw[<-l];have q:=rq l;clear l;go_enter Tryz.func72,Tryz.ntmps72;go_wp2_with fail;go_loopw [6,12] (fun p m wr=>∃(j:Nat)(H:Int),m=.int .i64 j/\p=.int .u64 H/\j<=n/\R=Hf H (xs.drop j)/\w=wr) (fun _ m _=>n-(intOf m).toNat);case atStart=>exact⟨0,h,rfl,rfl,rO _,q.out,rfl⟩
 case
  round=>
   obtain⟨j,H,rfl,rfl,T,z,rfl⟩:=hrel;have g:=rq z;clear z q;by_cases I:j<n
   ·obtain⟨L,Y,x,F,Q,hx,O⟩:=C.at_ I;have Cl:j<xs.length:=V;have D:xs[j]=x:=ev;have b:R=Hf (Fo 8 (Go.bits BinOp.xor IntKind.u64 H (x.toNat:Int))) (xs.drop (j+1)):=by rw[g.out,rH Cl,D];rfl
    have r:=rq b;have U:(j:Int)<(n:Int):=V;have W:=x.toNat_lt;subst F;clear b g hx D;go_wp2_with fail;generalize Go.bits BinOp.xor IntKind.u64 H (x.toNat:Int)=H1 at*;go_loopw [6,20] (fun p o wr=>∃(i:Nat)(a:Int),o=.int .i64 i/\p=.int .u64 a/\i<=8/\Fo (8-i) a=Fo 8 H1/\w=wr) (fun _ o _=>8-(intOf o).toNat);case atStart=>exact⟨0,H1,rfl,rfl,V,rfl,rfl⟩
    case
     round=>
      obtain⟨i,a,rfl,rfl,S,v,rfl⟩:=hrel;have d:=rq v;clear v;by_cases M:i<8
      ·have N:(i:Int)<8:=V;have b:Fo (8-(i+1)) (Jc a)=Fo 8 H1:=by rw[<-d.out,show 8-i=(8-(i+1))+1 from V];rfl
       have k:=rq b;clear b d;go_wp2_with fail;refine(Ud a _).mono ?_;rintro e' Z ⟨rfl,rfl⟩;go_wp2_with fail;refine⟨⟨i+1,Jc a,bi,rfl,V,k.out,by trivial⟩,?_⟩;exact bK
      ·have E:i=8:=V;subst E;have t:Fo 8 H1=a:=by rw[<-d.out];rfl
       have k:=rq (t▸r.out);clear t d r;go_wp2_with fail;refine⟨⟨j+1,a,bi,rfl,V,k.out,by trivial⟩,?_⟩;exact bK
   ·have y:j=n:=V;have G:R=H:=by rw[g.out,y,<-K,ze];rfl
    subst G y;clear g;exact bE
def Wv(xs:acM):Int:=Hf 13933329357911598997 xs
def Vk(A:acN)(n c B:Nat)(xs:acM)(w:World)(b:Rd w B A n xs)(a:n<=1000000000):Calls Tryz.prog 33 #[.slice A n c] w fun e w'=>e=.returned (.int .u64 (Wv xs))/\w=w':=by
 have h:=fun c=>Se 13933329357911598997 A n c B xs w b a
 unfold Wv;generalize Hf 13933329357911598997 xs=R at*;go_enter Tryz.func33,Tryz.ntmps33;go_wp2_with fail;refine(h c).mono ?_;rintro e' d ⟨rfl,rfl⟩;exact bE
def P9(j:Bool)(k d:Int)(g:Nat)(w:World)(n:w.cell? ⟨g,2,none⟩=some (.int .i64 d))(o:w.frozen? ⟨g,2,none⟩=false):Calls Tryz.prog 56 #[.pointer (some ⟨g,0,none⟩),.bool j,.int .i64 k] w fun e w'=>e=.returned (.tuple #[])/\((sq j k d=d/\w'=w)\/w'=w.setCell ⟨g,2,none⟩ (.int .i64 (sq j k d))):=by
 obtain⟨R,a⟩:∃R,R=sq j k d:=⟨_,rfl⟩;rw[<-a];unfold sq at a;have b:=rq a;clear a;go_enter Tryz.func56,Tryz.ntmps56;cases j with
 |false=>have a:=b.out;simp at a;clear b;subst a;exact ig
 |true=>
  by_cases i:d=0;·have a:=b.out;rw[rv ⟨rfl,i⟩]at a;clear b;subst a;subst i;go_wp2_with fail;refine tY (tA rfl _ _ _) rfl ?_;exact⟨rfl,.inr rfl⟩
  ·have a:=b.out;rw[ru (fun h=>i h.2)]at a;clear b;subst a;have l:(R==0)=false:=rr.2 i;have m:decide (R=0)=false:=rF i;exact ig
def Vx{x:J}{key:acM}(h:tZ j key=some x):SizeOf.sizeOf x<SizeOf.sizeOf j:=by
 unfold tZ at h;split at h;·have h1:=vd (rL h);exact ko
 ·cases h
def JG{key:acM}(h:has j key=true):SizeOf.sizeOf (getD j key)<SizeOf.sizeOf j:=by
 unfold has at h;unfold getD;cases a:tZ j key with
 |none=>rw[a]at h;cases h
 |some x=>exact Vx a
def O0{x:J}(h:x∈j.items):SizeOf.sizeOf x<SizeOf.sizeOf j:=by have h1:=vd h;exact ko
def xe(d:c≠0)(h:sq b c e=0):b=false/\e=0:=by
 unfold sq at h;split at h;·exact absurd h d
 ·rename_i a;exact⟨by cases b with|false=>rfl|true=>exact absurd ⟨rfl,h⟩ a,h⟩
def IK(full:acM):∀(l:List Hd)(i:Nat),yS full i l= -1\/((i:Int)<=yS full i l/\yS full i l<(i:Int)+l.length)
 | [],i=>.inl rfl
 |h::r,i=>
 by
  unfold yS;split;·exact .inr ⟨Ao _,by simp only[rM];omega⟩
  ·rcases IK full r (i+1)with h|h;·exact .inl h
   ·simp only[rM];exact .inr ⟨V,V⟩
def Vm(a:List Hd)(r:Bn):Prop:=r.2.2=0->0<=r.1/\r.1<(a.length:Int)+r.2.1.length
def GU(a:List Hd)(e:Int):Vm a (vJ n a e):=by
 unfold vJ Vm;split;·intro _;exact ns
 ·intro h;rename_i b;exact absurd h b
def LZ(s ar:acM)(a:List Hd)(e:Int):Vm a (zA s ar a e):=by
 unfold zA;split;·exact GU _ _ _
 ·intro h;have b:=xe bD h;have d:=IK (FV (vv ar s)) a 0;have g:¬zH a (FV (vv ar s))<0:=of_decide_eq_false b.1;unfold zH at*;simp only[sc];omega
def SC(nd:J->List Hd->Int->Bn)(b:List Hd):∀(l:List J)(d:List Int)(new:List Nd)(e:Int),(Li nd b l d new e).2.2.2=0->(Li nd b l d new e).1=b.length-1
 | [],_,_,_,_=>rfl
 |j::r,d,new,e,h=>
 by
  unfold Li at h|-;split;·rename_i a;rw[rv a]at h;exact SC nd b r _ _ _ h
  ·rename_i a;rw[ru a]at h;exact absurd h a
def Ng(nd:J->List Hd->Int->Bn)(a:List Hd):∀(l:List J)(b:List Fd)(new:List Nd)(e:Int),(Lg nd a l b new e).2.2.2=0->(Lg nd a l b new e).1=a.length-1
 | [],_,_,_,_=>rfl
 |x::r,b,new,e,h=>
 by
  unfold Lg at h|-;by_cases d:e=0
  ·rw[rv d]at h|-;simp only at h|-;split;·rename_i g;rw[rv g]at h;exact Ng nd a r _ _ _ h
   ·rename_i g;rw[ru g]at h;exact Ng nd a r _ _ _ h
  ·rw[ru d]at h;exact absurd h d
def Uz(nd:J->List Hd->Int->Bn)(l:List J)(a:List Hd)(e:Int):Vm a (AQ nd l a e):=by
 unfold AQ;split;·intro h;have:=SC nd _ _ _ _ _ h;simp only at this|-;rw[this];exact fa
 ·exact ft
def Ph(nd:J->List Hd->Int->Bn)(j:J)(k:Int)(key:acM)(a:List Hd)(e:Int):Vm a (Cd nd j k key a e):=by
 unfold Cd;split;·intro _;simp only[rM];omega
 ·exact ft
def Q4(nd:J->List Hd->Int->Bn)(j:J)(n:Nd)(a:List Hd)(e:Int):Vm a (zM nd j n a e):=by
 unfold zM;simp only;split;·intro h;have:=Ng nd _ _ _ _ _ h;simp only at this|-;rw[this];exact fa
 ·exact ft
def Vv(j:J)(n:Nd)(a:List Hd)(e:Int):Vm a (Fc j n a e):=by unfold Fc;simp only;split<;>exact GU _ _ _
def QV(nd:J->acM->List Hd->Int->Bn)(j:J)(ar:acM)(a:List Hd)(e:Int):Vm a (xJ nd j ar a e):=by
 unfold xJ;simp only;split
 ·split;·exact Ph _ _ _ _ _ _
  ·split;·exact Ph _ _ _ _ _ _
   ·split;·exact Q4 _ _ _ _ _
    ·split;·exact Vv _ _ _ _
     ·split;·exact GU _ _ _
      ·exact LZ _ _ _ _
 ·exact ft
def V1(j:J)(ar:acM)(a:List Hd)(e:Int):Vm a (tN (f+1) j ar a e):=by
 unfold tN;split
 ·split;·exact LZ _ _ _ _
  ·split;·exact Uz _ _ _ _
   ·split;·exact QV _ _ _ _ _
    ·intro h;exact absurd h bD
 ·exact ft
end
