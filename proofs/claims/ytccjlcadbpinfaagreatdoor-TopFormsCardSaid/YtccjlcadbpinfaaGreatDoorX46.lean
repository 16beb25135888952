import Derived.Test.YtccjlcadbpinfaaGreatDoorX45
set_option linter.all false
set_option maxRecDepth 100000
set_option maxHeartbeats 16000000
namespace Go.Proofs.YtccjlcadbpinfaaGreatDoor.Tp
open ChangeShapes WideShapes ChangeAt RowKit
open Num Mem Can
abbrev vo(k i:Int)(b:Nat)(A:acN)(n c:Nat)(A':acN)(n' c':Nat)(a:acN)(e d:Nat):Go.Obj:=.cells #[.int .i64 k,.int .i64 i,.int .u64 (b:Int),.slice A n c,.slice A' n' c',.slice a e d] 27
def P6(v:rp)(w:World)(A:acN)(n c:Nat)(A':acN)(n' c':Nat)(j:acN)(g l:Nat)(B:v.bytes.length=n)(C:v.items.length=n')(D:v.keys.length=g):Calls Tryz.prog 80 #[.agg #[.int .i64 v.kind,.int .i64 v.int,.int .u64 (v.bits:Int),.slice A n c,.slice A' n' c',.slice j g l]] w fun e w'=>e=.returned (.bool (Gz v))/\Below w.heap.size w w':=by
 obtain⟨R,a⟩:∃R,R=Gz v:=⟨_,rfl⟩;rw[<-a];unfold Gz at a;rw[B,C,D]at a;generalize v.kind=k at*;generalize v.int=i at*;generalize v.bits=b at*;have HR:=rq a;clear a B C D;have E:=(acQ w).al rT (vo k i b A n c A' n' c' j g l);have y:Bx (w.alloc (vo k i b A n c A' n' c' j g l)) w.heap.size _:=Bx.new w _ _ _ rfl;have H:w.heap.size<(w.alloc (vo k i b A n c A' n' c' j g l)).heap.size:=bi;go_enter Tryz.func80,Tryz.ntmps80;go_upto_region 1 with fail;generalize w.alloc (vo k i b A n c A' n' c' j g l)=w1 at*;go_cut [3,4,5,6,7] (fun a6 a7 a8 a9 aa m=>a6=.bool (!decide (i=0))/\a7=.bool (!decide (b=0))/\a8=.bool (!decide (n=0))/\a9=.bool (!decide (n'=0))/\aa=.bool (!decide (g=0))/\Below w.heap.size w m/\m.cell? ⟨w.heap.size,0,none⟩=some (.int .i64 k));case
  first
   =>
    refine su [0,1,2,3,4,5,6,7,8,9,10,11,12,13,14,15,16,17,18,19,20,21,22] [] bg bg (by simp) bg (fun _ _ d _ _ h=>by cases d<;>exact h) (fun wd G sW=> ?_);obtain⟨z,Z,a0,a1,a2,a3, -⟩:=(y.below G H).xa;have ab:w.heap.size+1<=wd.heap.size:=V;repeat((first|(refine sJ rfl rfl rfl bh ?_)|(refine sN rfl rfl rfl ?_)|(refine sM rfl rfl rfl (w.heap.size+1) V _ (by intro w' hb;have b6:=(hb.cell (p:=⟨w.heap.size,0,none⟩) bd).trans z;have b7:=(hb.cell (p:=⟨w.heap.size,1,none⟩) bd).trans Z;have b8:=(hb.cell (p:=⟨w.heap.size,2,none⟩) bd).trans a0;have b9:=(hb.cell (p:=⟨w.heap.size,3,none⟩) bd).trans a1;have be:=(hb.cell (p:=⟨w.heap.size,4,none⟩) bd).trans a2;have bj:=(hb.cell (p:=⟨w.heap.size,5,none⟩) bd).trans a3;clear hb;go_simp;first|done|with_reducible rfl) ?_));simp only[Act.put,rB,rz,rA])
    refine sn ?_;go_wp2_with fail;go_meet;refine⟨?_,?_,?_,?_,?_,E.sV rT G,z⟩;·by_cases h:i=0<;>simp[h]
    ·by_cases h:b=0<;>simp[h]
    ·by_cases h:n=0<;>simp[h]<;>omega
    ·by_cases h:n'=0<;>simp[h]<;>omega
    ·by_cases h:g=0<;>simp[h]<;>omega
 case
  rest=>
   obtain⟨m,a5⟩:∃m,m=wc:=⟨_,rfl⟩;subst a5;obtain⟨rfl,rfl,rfl,rfl,rfl,F,c0⟩:=hcut;clear E y H;have a:=HR.out;clear HR;generalize decide (i=0)=q at*;generalize decide (b=0)=o at*;generalize decide (n=0)=x at*;generalize decide (n'=0)=t at*;generalize decide (g=0)=r at*;have a4:k=2\/k=3\/k=4\/k=10\/k=5\/k=6\/k=7\/k=8\/k=14\/k=12\/k=9\/k=11\/k=13\/(k≠2/\k≠3/\k≠4/\k≠10/\k≠5/\k≠6/\k≠7/\k≠8/\k≠14/\k≠12/\k≠9/\k≠11/\k≠13):=V;rcases a4 with rfl|rfl|rfl|rfl|rfl|rfl|rfl|rfl|rfl|rfl|rfl|rfl|rfl|⟨O,Q,S,I,T,U,W,X,N,L,Y,K,M⟩;rotate_right;·simp only[O,Q,S,I,T,U,W,X,N,L,Y,K,M,decide_false,zK]at a;have HR:=rq a;have ar:(k==2)=false:=rr.2 O;have aU:(k==3)=false:=rr.2 Q;have b0:(k==4)=false:=rr.2 S;have ac:(k==10)=false:=rr.2 I;have b1:(k==5)=false:=rr.2 T;have b2:(k==6)=false:=rr.2 U;have b3:(k==7)=false:=rr.2 W;have b4:(k==8)=false:=rr.2 X;have an:(k==14)=false:=rr.2 N;have af:(k==12)=false:=rr.2 L;have b5:(k==9)=false:=rr.2 Y;have ad:(k==11)=false:=rr.2 K;have ak:(k==13)=false:=rr.2 M;clear a;go_upto_region 22 with fail;clear c0;repeat' (first|(go_wp2_with fail;go_ret;exact⟨dh,F⟩)|cases q|cases o|cases x|cases t|cases r)
   all_goals
    simp only[show decide ((2:Int)=2)=true from rfl,Gc,wW,rU,zJ,zK,Int.reduceEq,decide_false,xK]at a;have HR:=rq a;clear a;go_upto_region 22 with fail;clear c0;try clear q
    try clear o
    try clear x
    try clear t
    try clear r
    repeat' (first|(go_wp2_with fail;go_ret;exact⟨dh,F⟩)|cases q|cases o|cases x|cases t|cases r)
def QS(x:acM)(d:x.length<=100000000)(w:World):Calls Tryz.prog 142 #[.string ⟨x.toArray⟩] w fun e w'=>e=.returned (.bool (LV x))/\Below w.heap.size w w':=by
 have hrt:=fun(c7:Nat)(w7:World) b=>Ut.C8 (some ⟨w.heap.size,0,none⟩) x.length c7 (w.heap.size+1) x w7 b V
 unfold LV;generalize(Ut.vA x).isSome=R at*;go_enter Tryz.func142,Tryz.ntmps142;by_cases h:20000<x.length;·have a:(20000:Int)<(x.length:Int):=V;rw[rP h,wW];clear h;exact cU
 ·have a:¬(20000:Int)<(x.length:Int):=V;rw[rF h,tU];clear h;exact dX
def NN(ks:List acM)(i:∀k∈ks,k.length<=100000000)(w:World)(X:acO)(A:acN)(n c:Nat)(g:Row w X 1 A n (uF ks))(a:∀b,X b->b<w.heap.size)(d:n<=100000000):Calls Tryz.prog 84 #[.slice A n c] w fun e w'=>e=.returned (.bool (JW ks))/\Below w.heap.size w w':=by have h:=zb (c:=c) 142 (enters_of Tryz.func142 bg rfl) #[] LV ks w X A n g a d (fun x j w' _=>QS x (i x j) w');unfold JW;generalize ks.any LV=R at*;go_enter Tryz.func84,Tryz.ntmps84;exact bZ
def WN(S:List Nd)(f:Nat):Prop:=∀(a:Nat)(v:rp),PN f v->a<S.length->∀(w:World)(X:acO)(A:acN)(n c:Nat)(root k i:Int)(b:Nat)(d:acN)(l c1:Nat)(g:acN)(m c2:Nat)(h:acN)(o j:Nat),tV w X A n S->A9 w X (vq k i b d l c1 g m c2 h o j) v->(∀b,X b->b<w.heap.size)->Calls Tryz.prog 36 #[.agg #[.slice A n c,.int .i64 root],.int .i64 (a:Int),.agg #[.int .i64 k,.int .i64 i,.int .u64 (b:Int),.slice d l c1,.slice g m c2,.slice h o j]] w fun e w'=>e=.returned (.bool (wQ S f a v))/\Below w.heap.size w w'
def E5(S:List Nd)(f:Nat)(cb:WN S f)(O:Nat)(cx:∀args w,(callFunc O args).run Tryz.prog w=.ok (.enter O args) w)(lb:Array Value)(of:Nat->Int)(l:List rp)(bv:∀y∈l,PN f y)(w:World)(X:acO)(A:acN)(n c:Nat)(root:Int)(c6:tV w X A n S)(B:acN)(m d:Nat)(css:List (List Value))(hb:Row w X 6 B m css)(bx:css.length=l.length)(br:∀(i:Nat)(h:i<css.length)(ab:i<l.length),A9 w X css[i] l[i])(hX:∀b,X b->b<w.heap.size)(cS:m<=2500)(bO:∀i,i<m->0<=of i/\of i<(S.length:Int))(b9:∀i:Nat,i<m->∀w',Below w.heap.size w w'->Calls Tryz.prog O (#[.int .i64 (i:Int)]++lb) w' fun e cs=>e=.returned (.int .i64 (of i))/\Below w'.heap.size w' cs):Calls Tryz.prog 82 #[.agg #[.slice A n c,.int .i64 root],.slice B m d,.func (.func O) #[] lb] w fun e w'=>e=.returned (.bool (Ag (wQ S f) of l))/\Below w.heap.size w w':=by
 have a4:l.length=m:=by have:=hb.len;omega
 obtain⟨R,v⟩:∃R,R=Ag (wQ S f) of l:=⟨_,rfl⟩;rw[<-v];unfold Ag at v;rw[a4]at v;obtain⟨Z,a1⟩:∃Z,Z=decide (m<=300):=⟨_,rfl⟩;rw[<-a1]at v;have a9:=rq v;have M:=rq a1;have HL:=rq a4;clear v a1 a4;have be:=(acQ w).al rT (sC A n c root);have S1:Bx (w.alloc (sC A n c root)) w.heap.size _:=Bx.new w _ _ _ rfl;have c7:w.heap.size<(w.alloc (sC A n c root)).heap.size:=bi;go_enter Tryz.func82,Tryz.ntmps82;go_upto_region 1 with fail;generalize w.alloc (sC A n c root)=w1 at*;go_wp2_with fail;go_loopw [11] (fun a7 wr=>∃j:Nat,a7=.int .i64 j/\j<=m/\R=(Dl (wQ S f) of j (l.drop j)&&Z)/\Below w1.heap.size w1 wr) (fun a7 _=>m-(intOf a7).toNat);case atStart=>exact⟨0,rfl,rO _,a9.out,Below.refl _ _⟩
 case
  round=>
   obtain⟨j,rfl,cz,a,W⟩:=hrel;have r:=rq a;clear a a9;have U3:=be.sV V W;have d3:=W.size;by_cases Y:j<m
   ·have bs:(j:Int)<(m:Int):=V;obtain⟨g,p,x,k,i,b,z,I,c1,C,K,c2,D,L,E,rfl,bp,hx,ar,b2,b3,b4,b5,b6,b7⟩:=CK (Row.below hb U3 hX) bx (fun i h ab=>(br i h ab).stay U3 hX) Y;have cy:=hX g bp;have Cl:j<l.length:=by rw[HL.out];exact Y
    have QE:l[j]=x:=ev;have af:l.drop j=x::l.drop (j+1):=im;have bz:=bv x (QE▸rY Cl);obtain⟨c3,c4⟩:=bO j Y;obtain⟨q,a5⟩:∃q:Nat,of j=(q:Int):=⟨(of j).toNat,V⟩;have a:=r.out;rw[af,Dl,a5,rW]at a;have N:=rq a;have c5:q<S.length:=V;have a2:=fun w' h=>b9 j Y w' h
    rw[a5]at a2;clear a r af hx QE Cl c3 c4 a5;have t:=(acQ wr).al rT (vo k i b z I c1 C K c2 D L E);have aa:Bx (wr.alloc (vo k i b z I c1 C K c2 D L E)) wr.heap.size _:=Bx.new wr _ _ _ rfl;have c8:wr.heap.size<(wr.alloc (vo k i b z I c1 C K c2 D L E)).heap.size:=bi;go_upto_region 4 with fail;generalize wr.alloc (vo k i b z I c1 C K c2 D L E)=d4 at*;have d0:=t.size;have a0:=(S1.below W c7).below t V;have ad:=U3.sV V t;have bj:=W.sV rT t;refine su [0,1,2,4,3,5,6] [3,5] bg bg bi bg (fun _ _ d _ _ h=>bw) (fun wd o sW=> ?_);have a3:=ad.sV V o;have bk:=bj.sV rT o;have d2:=o.size;have cc:=(a0.below o V).c 0 _ rfl;have cf:=(a0.below o V).c 1 _ rfl;obtain⟨ch,ci,cj,cl,cp,cr, -⟩:=(aa.below o c8).xa;have ak:=c6.below a3 hX;have an:=ar.stay (B:=w.heap.size) ((vK.trans (t.mono (by omega:w.heap.size<=wr.heap.size))).sV V o) hX;have ac:=a2 wd a3;have H:=fun aU(a6:Below wd.heap.size wd aU)=>cb q x bz c5 aU X A n c root k i b z I c1 C K c2 D L E (ak.below a6 (fun b hb=>bl)) (an.stay a6 (fun b hb=>bl)) (fun b hb=>by have:=hX b hb;have:=a6.size;omega)
    have a8:=rq H;clear H a2 o sW b2 b3 b4 b5 b6 b7 ak an ar aa a0 t ad;repeat((first|(refine sJ rfl rfl rfl bh ?_)|(refine sN rfl rfl rfl ?_)|(refine sM rfl rfl rfl (wd.heap.size) V _ (by intro w' hb;have d6:=(hb.cell (p:=⟨w.heap.size,0,none⟩) bd).trans cc;have d7:=(hb.cell (p:=⟨w.heap.size,1,none⟩) bd).trans cf;have d8:=(hb.cell (p:=⟨wr.heap.size,0,none⟩) bd).trans ch;have d9:=(hb.cell (p:=⟨wr.heap.size,1,none⟩) bd).trans ci;have dd:=(hb.cell (p:=⟨wr.heap.size,2,none⟩) bd).trans cj;have df:=(hb.cell (p:=⟨wr.heap.size,3,none⟩) bd).trans cl;have di:=(hb.cell (p:=⟨wr.heap.size,4,none⟩) bd).trans cp;have dj:=(hb.cell (p:=⟨wr.heap.size,5,none⟩) bd).trans cr;clear hb;go_simp;first|done|with_reducible rfl) ?_));simp only[Act.put,rB,rz,rA])
    refine sB rfl rfl wd.heap.size rT (fun b1 F=> ?_);go_wp2_with fail;refine ac.mono ?_;rintro e' ct ⟨rfl,G⟩;clear ac;go_wp2_with fail;refine F _ _ G ?_;clear F;have c9:=G.size;have H:=a8.out ct G;generalize wQ S f q x=b0 at*;refine aZ ?_;refine sB rfl rfl wd.heap.size rT (fun b1 F=> ?_);go_wp2_with fail;refine H.mono ?_;rintro e' d5 ⟨rfl,U⟩;clear H a8;go_wp2_with fail;refine F _ _ (U.mono c9) ?_;clear F;have d1:=U.size;have AZ:=(a3.sV V G).sV V U;have bn:=(bk.sV rT G).sV rT U;cases b0 with
    |true=>have a:=N.out;rw[rU]at a;have r:=rq a;clear a N;refine aN ?_;refine sn ?_;go_wp2_with fail;refine⟨⟨j+1,bi,V,r.out,bn⟩,?_⟩;exact bK
    |false=>
     obtain rfl:R=false:=by rw[N.out];rfl
     clear N;refine aN ?_;refine sn ?_;exact bR
   ·have bs:¬(j:Int)<(m:Int):=V;have a:=r.out;rw[so cK,Dl,rU]at a;subst a;clear r;by_cases T:m<=300
    ·have b8:(m:Int)<=300:=V;obtain rfl:R=true:=by rw[M.out];exact rP T
     clear M T;exact eN
    ·have b8:¬(m:Int)<=300:=V;obtain rfl:R=false:=by rw[M.out];exact rF T
     clear M T;exact eN
abbrev W9(x:Nd)(a:acN)(i c1:Nat)(b:acN)(j c2:Nat)(d:acN)(k g:Nat)(e:acN)(l h:Nat):Go.Obj:=(nC x a i c1 b j c2 d k g e l h)
def SF(x:Nd)(N j:Nat)(A:acN)(n c:Nat)(o:j<n)(Q:n<=100000000)(w:World)(X:acO)(L:w.cell? ⟨N,3,none⟩=some (.slice A n c))(b:yJ w X A n x.fields):Calls Tryz.prog 83 (#[.int .i64 (j:Int)]++ #[.pointer (some ⟨N,0,none⟩)]) w fun e w'=>e=.returned (.int .i64 (Nw x j))/\Below w.heap.size w w':=by
 have O:(j:Int)<(n:Int):=V;obtain⟨g,p,y,q,S,v,k,i,t,B,m,d,B',R,r,rfl,M,l,⟨z,C,D,E,F,G,H,I,K⟩, -, -, -, -⟩:=yY b o;have a:Nw x j=y.type:=by unfold Nw;rw[l]
 rw[a];clear a l b;go_enter Tryz.func83,Tryz.ntmps83;exact cU
def IE(x:Nd)(N j:Nat)(w:World)(a:w.cell? ⟨N,8,none⟩=some (.int .i64 x.items)):Calls Tryz.prog 85 (#[.int .i64 (j:Int)]++ #[.pointer (some ⟨N,0,none⟩)]) w fun e w'=>e=.returned (.int .i64 x.items)/\Below w.heap.size w w':=by go_enter Tryz.func85,Tryz.ntmps85;exact cU
def SH(S:List Nd)(gk:∀x∈S,∀k∈ti x,0<=k/\k<(S.length:Int))(hI:S.length<=100000000):∀f,WN S f:=by
 intro f;induction f with
 |zero=>intro a v h;cases h
 |succ f b9=>
  intro a v hlv hy w X A n c root k i b a9 H ac U r a0 aa M ad cb h9 hX;obtain⟨⟨rfl,rfl,rfl⟩,XN,⟨css,hit,c5,f6⟩,WZ,⟨hA,hB,hC⟩, -, -,hz⟩:=h9.inv;obtain⟨lb,hT,hU,hm,cf⟩:v.bytes.length<=2500/\v.items.length<=2500/\v.keys.length<=2500/\(∀k∈v.keys,k.length<=2500)/\∀y∈v.items,PN f y:=km;have et:S.length=n:=cb.len;have c7:v.bytes.length=H:=iL;have c8:v.items.length=r:=gR;have c9:v.keys.length=M:=oF;obtain⟨T,aU,x,bk,cp,c1,b5,a4,c2,bn,ar,bx,bp,a5,bz,rfl,Z,d9,⟨e5,e6,e7,e8,e9,ea,eb,ef,eg,ei⟩,⟨hq,dr,fi,ds⟩, -,hJ,hK,hL,hM⟩:=uW cb (show a<n from V);have hd:x∈S:=rL d9;have b7:=gk x hd;have hx:(a:Int)<(n:Int):=V;have h5:=hX T Z;have bO:x.fields.length=a4:=dr.len;have d4:x.symbols.length=ar:=by have:=fi.len;exact cN
  have d5:x.rR.length=a5:=by have:=ds.len;exact eJ
  obtain⟨RR,j⟩:∃RR,RR=wQ S (f+1) a v:=⟨_,rfl⟩;rw[<-j];rw[wQ,d9]at j;simp only at j;rw[c7,c8,c9,bO,d4,d5]at j;obtain⟨bad,ab⟩:∃b,b=(!decide (v.kind=x.kind)||(!Gz v||decide (20000<H))):=⟨_,rfl⟩;rw[<-ab]at j;have dN:=rq (And.intro c7 (And.intro c8 (And.intro c9 (And.intro bO (And.intro d4 d5)))));have vL:=rq j;have N:=rq ab;have hv:=rq et;have hF:H<=2500:=V;have hG:r<=2500:=V;have hH:M<=2500:=V;clear j ab d9;have d3:=fun w'=>P6 v w' a9 H ac U r a0 aa M ad c7 c8 c9
  clear c7 c8 c9 bO d4 d5 et;have d0:=((acQ w).al rT (sC (some ⟨T,aU,none⟩) n c root)).alloc bi (vo v.kind v.int v.bits a9 H ac U r a0 aa M ad);have S1:=(Bx.new w #[.slice (some ⟨T,aU,none⟩) n c,.int .i64 root] 32 w.heap.size rfl).below (vK.al rT (vo v.kind v.int v.bits a9 H ac U r a0 aa M ad)) bi;have e3:Bx ((w.alloc (sC (some ⟨T,aU,none⟩) n c root)).alloc (vo v.kind v.int v.bits a9 H ac U r a0 aa M ad)) (w.heap.size+1) _:=Bx.new (w.alloc (sC (some ⟨T,aU,none⟩) n c root)) _ _ _ bi;have f7:((w.alloc (sC (some ⟨T,aU,none⟩) n c root)).alloc (vo v.kind v.int v.bits a9 H ac U r a0 aa M ad)).heap.size=w.heap.size+2:=bi;go_enter Tryz.func36,Tryz.ntmps36;go_upto_region 1 with fail;generalize(w.alloc (sC (some ⟨T,aU,none⟩) n c root)).alloc (vo v.kind v.int v.bits a9 H ac U r a0 aa M ad)=w1 at*;have a8:=rq f7;have hP:w.heap.size+2<=w1.heap.size:=V;have K:∀q,w1.cell? ⟨T,q,none⟩=w.cell? ⟨T,q,none⟩:=fun q=>d0.cell (p:=⟨T,q,none⟩) h5
  have g3:=(K _).trans e5;have g4:=(K _).trans e6;have g5:=(K _).trans e7;have g6:=(K _).trans e8;have g7:=(K _).trans e9;have g8:=(K _).trans ea;have g9:=(K _).trans eb;have gb:=(K _).trans ef;have gc:=(K _).trans eg;have gd:=(K _).trans ei;have s0:=S1.c 0 _ rfl;clear e5 e6 e7 e8 e9 ea eb ef eg ei K f7;have bv:=(acQ w1).al rT (W9 x bk cp c1 b5 a4 c2 bn ar bx bp a5 bz);have e0:Bx (w1.alloc (W9 x bk cp c1 b5 a4 c2 bn ar bx bp a5 bz)) w1.heap.size _:=Bx.new w1 _ _ _ rfl;have f8:w1.heap.size<(w1.alloc (W9 x bk cp c1 b5 a4 c2 bn ar bx bp a5 bz)).heap.size:=bi;go_upto_region 2 with fail;generalize w1.alloc (W9 x bk cp c1 b5 a4 c2 bn ar bx bp a5 bz)=dz at*;have e2:=S1.below bv V;have cx:=e3.below bv V;have f0:=d0.sV V bv;have br:=e0;rw[a8.out]at br;clear g3 g4 g5 g6 g7 g8 g9 gb gc gd s0 S1 e3 d0 bv;rw[a8.out]at f8;obtain⟨b0,a6,be,b1,b2,b3, -⟩:=cx.xa;have C:=br.c 0 _ rfl;rw[<-a8.out]at C;go_cut [28]from 13 to 28 (fun ht wx=>ht=.bool bad/\Below dz.heap.size dz wx);case
   first
    =>
     clear vL b9 b7;by_cases R:v.kind=x.kind
     ·have ab:=N.out;rw[rP R,tl,tU]at ab;have d1:=d3 dz;generalize Gz v=fl at*;rw[R]at b0 d1;clear d3 N R;have N:=rq ab;clear ab;go_wp2_with fail;refine d1.mono ?_;rintro e' i1 ⟨rfl,d2⟩;clear d1;have hY:=(d2.cell (p:=⟨w.heap.size+1,3,none⟩) bd).trans b1;clear b0 a6 be b1 b2 b3 C;cases fl with
      |false=>
       obtain rfl:bad=true:=by rw[N.out];rfl
       clear N;go_wp2_with fail;go_meet;exact⟨rfl,d2⟩
      |true=>
       have l:¬(20000:Int)<(H:Int):=V;obtain rfl:bad=false:=by rw[N.out];simp;omega
       clear N;go_wp2_with fail;go_meet;exact⟨by simp;omega,d2⟩
     ·have WX:(v.kind !=x.kind)=true:=by simp[bne,rr.2 R]
      obtain rfl:bad=true:=by rw[N.out,rF R];rfl
      clear N R;go_wp2_with fail;go_meet;exact⟨rfl,Below.refl _ _⟩
  case
   rest=>
    obtain⟨wx,hc⟩:∃wx,wx=wc:=⟨_,rfl⟩;subst hc;obtain⟨rfl,an⟩:=hcut;have Tb:=f0.sV V an;have hS:=an.size;have hQ:w1.heap.size<wx.heap.size:=by rw[a8.out];omega
    clear b0 a6 be b1 b2 b3 C;have bs:=e2.below an V;have e4:=cx.below an V;have e1:=br.below an f8;have cc:=cb.below Tb hX;have G:∀b,X b->b<wx.heap.size:=fun b hb=>bl
    have c6:=Row.below hit Tb hX;have c4:=fun i h b6=>(f6 i h b6).stay Tb hX
    have gA:=Row.below WZ Tb hX;have gn:=Kg (Row.below XN Tb hX) hX;have hr:=dr.keep (w':=wx) (Y:=X) (fun q Z=>Tb.cell (hX _ Z)) (fun _ h=>h);have hs:=Row.below ds Tb hX;clear hit f6 WZ XN cb hq dr fi ds f0 an e2 cx br e0;cases bad with
    |true=>
     obtain rfl:RR=false:=by rw[vL.out,rv rfl]
     exact bJ
    |false=>
     have j:=vL.out;rw[ru bD]at j;have vL:=rq j;clear j N d3;obtain⟨b0,a6,be,b1,b2,b3, -⟩:=e4.xa;obtain⟨C,df,di,ch,dj,dk,dp,ci,cj,cl, -⟩:=e1.yk;have s0:=bs.c 0 _ rfl;have s1:=bs.c 1 _ rfl;rw[<-a8.out]at C df di ch dj dk dp ci cj cl;by_cases l:x.kind=2
     ·have j:=vL.out;rw[rv l]at j;have vL:=rq j;rw[l]at C;have D:=rq l;clear j l;by_cases h0:v.int=0;·rw[h0]at a6;exact nX
      by_cases h1:v.int=1
      ·rw[h1]at a6;obtain rfl:RR=true:=by rw[vL.out];simp[h1]
       exact bJ
      have y0:(v.int==0)=false:=rr.2 h0;have y1:(v.int==1)=false:=rr.2 h1;exact nV
     have a1:(x.kind==2)=false:=rr.2 l;by_cases m:x.kind=3
     ·have j:=vL.out;rw[ru l,rv m]at j;have vL:=rq j;rw[m]at C;have D:=rq m;clear j m l a1;by_cases h0: -2147483648<=v.int
      ·by_cases h1:v.int<=2147483647;·obtain rfl:RR=true:=gj;exact bJ
       ·exact nV
      ·exact mO
     have a7:(x.kind==3)=false:=rr.2 m;by_cases o:x.kind=5
     ·have j:=vL.out;rw[ru l,ru m,rv o]at j;have vL:=rq j;rw[o]at C;have D:=rq o;clear j o l a1 m a7;by_cases h0:v.bits<4294967296;·have h7:((v.bits:Int)/4294967296)=0:=V;exact nX
      ·have h7:(((v.bits:Int)/4294967296)==0)=false:=rr.2 V;exact mO
     have af:(x.kind==5)=false:=rr.2 o;by_cases B:x.kind=8;·have j:=vL.out;rw[ru l,ru m,ru o,rv B]at j;have vL:=rq j;rw[B]at C;have D:=rq B;clear j B l a1 m a7 o af;have f9:=Ut.C8 a9 H ac w.heap.size v.bytes wx gn V;generalize(Ut.vA v.bytes).isSome=fn at*;go_wp2_with fail;refine f9.mono ?_;rintro e' dB ⟨rfl,rfl⟩;clear f9;obtain rfl:RR=fn:=vL.out;exact bJ
     have b4:(x.kind==8)=false:=rr.2 B;by_cases E:x.kind=14
     ·have j:=vL.out;rw[ru l,ru m,ru o,ru B,rv E]at j;have vL:=rq j;rw[E]at C;have D:=rq E;clear j E l a1 m a7 o af B b4;by_cases h0:(H:Int)=x.size;·rw[<-h0]at ci;exact nX
      ·have y0:((H:Int)==x.size)=false:=rr.2 h0;exact mO
     have bj:(x.kind==14)=false:=rr.2 E;by_cases F:x.kind=10
     ·have j:=vL.out;rw[ru l,ru m,ru o,ru B,ru E,rv F]at j;have vL:=rq j;rw[F]at C;have D:=rq F;clear j F l a1 m a7 o af B b4 E bj;by_cases h0:0<=v.int
      ·by_cases h1:v.int<(ar:Int);·obtain rfl:RR=true:=gj;exact bJ
       ·exact nV
      ·exact mO
     have cr:(x.kind==10)=false:=rr.2 F;by_cases I:x.kind=9
     ·have j:=vL.out;rw[ru l,ru m,ru o,ru B,ru E,ru F,rv I]at j;have vL:=rq j;rw[I]at C;have D:=rq I;clear j I l a1 m a7 o af B b4 E bj F cr;have h3:∀i,i<a4->0<=Nw x i/\Nw x i<(S.length:Int):=fun i c3=>
       by
        obtain⟨-, -, -,bO, -, -⟩:=dN.out;have f5:i<x.fields.length:=V;have go:Nw x i=x.fields[i].type:=by unfold Nw;rw[ry f5]
        rw[go];refine b7 _ ?_;unfold ti;rw[rv D.out];exact sR.2 ⟨_,rY f5,rfl⟩
      by_cases h0:r=a4;·subst h0;have IT:=E5 S f b9 83 (enters_of Tryz.func83 bg rfl) #[.pointer (some ⟨w1.heap.size,0,none⟩)] (Nw x) v.items cf wx X _ n c root cc U r a0 css c6 c5 c4 G V (fun i c3=>h3 i c3) (fun i c3 w' hb=>SF x w1.heap.size i b5 r c2 c3 V w' X ((hb.cell (p:=⟨w1.heap.size,3,none⟩) bd).trans ch) (hr.keep (fun q Z=>hb.cell (G _ Z)) (fun _ h=>h)));generalize Ag (wQ S f) (Nw x) v.items=EV at*;exact mP
      ·have y0:((r:Int)==(a4:Int))=false:=rr.2 V;exact mO
     have dK:(x.kind==9)=false:=rr.2 I;by_cases O:x.kind=12
     ·have j:=vL.out;rw[ru l,ru m,ru o,ru B,ru E,ru F,ru I,rv O]at j;have vL:=rq j;rw[O]at C;have D:=rq O;clear j O l a1 m a7 o af B b4 E bj F cr I dK;have d7:0<=x.items/\x.items<(S.length:Int):=b7 _ (by unfold ti;simp[D.out]);by_cases h0:M=r
      ·have R:=NN v.keys (fun k gz=>by have:=hm k gz;omega) wx X aa M ad gA G V;generalize JW v.keys=fm at*;rw[h0]at b3 R;have ct:=vL.out;rw[rP h0,rU]at ct;have vL:=rq ct;clear ct h0;go_wp2_with fail;refine R.mono ?_;rintro e' dB ⟨rfl,W⟩;clear R;have hR:=W.size;have f1:=Tb.sV V W;have fb:=(e1.below W V).c 8 _ rfl;rw[<-a8.out]at fb;have hV:=(bs.below W V).c 0 _ rfl;have hW:=(bs.below W V).c 1 _ rfl;have i0:=(e4.below W V).c 4 _ rfl;clear b0 a6 be b1 b2 b3 C df di ch dj dk dp ci cj cl s0 s1;cases fm with
       |false=>obtain rfl:RR=false:=kH;clear vL;go_wp2_with fail;go_ret;exact⟨rfl,f1⟩
       |true=>
        have h6:=cc.below W G;have gx:=Row.below c6 W G;have gs:=fun i h b6=>(c4 i h b6).stay W G
        have gl:∀b,X b->b<dB.heap.size:=fun b hb=>bl
        have IT:=E5 S f b9 85 (enters_of Tryz.func85 bg rfl) #[.pointer (some ⟨w1.heap.size,0,none⟩)] (fun _=>x.items) v.items cf dB X _ n c root (h6) U r a0 css gx c5 gs gl V (fun _ _=>d7) (fun i _ w' hb=>IE x w1.heap.size i w' ((hb.cell (p:=⟨w1.heap.size,8,none⟩) bd).trans fb));generalize Ag (wQ S f) (fun _=>x.items) v.items=EV at*;go_wp2_with fail;refine IT.mono ?_;rintro e' w5 ⟨rfl,Fg⟩;clear IT;have AZ:=f1.sV V Fg;exact px
      ·have y0:((M:Int) !=(r:Int))=true:=by simp[bne];omega
       exact mO
     have fj:(x.kind==12)=false:=rr.2 O;by_cases a2:x.kind=11;·have j:=vL.out;rw[ru l,ru m,ru o,ru B,ru E,ru F,ru I,ru O,rv a2]at j;have vL:=rq j;rw[a2]at C;have D:=rq a2;clear j a2 l a1 m a7 o af B b4 E bj F cr I dK O fj;have d7:0<=x.items/\x.items<(S.length:Int):=b7 _ (by unfold ti;simp[D.out]);have IT:=E5 S f b9 85 (enters_of Tryz.func85 bg rfl) #[.pointer (some ⟨w1.heap.size,0,none⟩)] (fun _=>x.items) v.items cf wx X _ n c root cc U r a0 css c6 c5 c4 G V (fun _ _=>d7) (fun i _ w' hb=>IE x w1.heap.size i w' ((hb.cell (p:=⟨w1.heap.size,8,none⟩) bd).trans cj));generalize Ag (wQ S f) (fun _=>x.items) v.items=EV at*;exact mP
     have hu:(x.kind==11)=false:=rr.2 a2;by_cases ak:x.kind=13
     ·have j:=vL.out;rw[ru l,ru m,ru o,ru B,ru E,ru F,ru I,ru O,ru a2,rv ak]at j;have vL:=rq j;rw[ak]at C;have D:=rq ak;clear j ak l a1 m a7 o af B b4 E bj F cr I dK O fj a2 hu;have h8:w1.heap.size=w.heap.size+2:=a8.out;have hN:w1.heap.size<wx.heap.size:=V;clear h8;go_upto_region 25 with fail;refine su [0,1,2,3,4,5,6,7,8,9,10,11,12,13,14,15,16,17,18,19,20,21,22,23,24,25,26,27,28,29,30,31] [29] bg bg bi bg (fun _ _ d _ _ h=>bw) (fun wd L sW=> ?_);have y0:=(L.cell (p:=⟨w.heap.size,0,none⟩) bd).trans s0;have y1:=(L.cell (p:=⟨w.heap.size,1,none⟩) bd).trans s1;have y2:=(L.cell (p:=⟨w.heap.size+1,1,none⟩) bd).trans a6;have y3:=(L.cell (p:=⟨w.heap.size+1,4,none⟩) bd).trans b2;have y4:=(L.cell (p:=⟨w1.heap.size,9,none⟩) bd).trans cl;have f2:=Tb.sV V L;have hf:=L.size;clear b0 a6 be b1 b2 b3 C df di ch dj dk dp ci cj cl s0 s1 sW;have L0:RR=false->∀dI,Below wd.heap.size wd dI->(Ending.returned (.bool false)=Ending.returned (.bool RR)/\Below w.heap.size w dI):=fun h dI he=>⟨by rw[h],f2.sV V he⟩
      by_cases cy:0<=v.int
      ·by_cases cz:v.int<(a5:Int)
       ·by_cases cS:r=1
        ·obtain⟨q,Z⟩:∃q:Nat,v.int=(q:Int):=⟨v.int.toNat,V⟩;obtain⟨g,p,z,hi,hg,g2,fs,hj,hn,g0,hk,ho,g1,hl,hp,rfl,gr,OZ,ha,ek,el,em,en,er,es⟩:=CK (Row.below c6 L G) c5 (fun i h b6=>(c4 i h b6).stay L G) (show 0<r from V);have h4:q<a5:=V;obtain⟨cs,ff,rfl,gf,f4⟩:=hs.pos V;have ZF:q<x.rR.length:=by rw[dN.out.2.2.2.2.2];exact h4
         obtain⟨a3,WX⟩:∃a3,a3=x.rR[q]:=⟨_,rfl⟩;have dd:=(f4 q [.int .i64 a3] iB).2 0 _ rfl;rw[tv,si]at dd;have f3:WV x q=a3:=jS;have hE:0<=a3/\a3<(S.length:Int):=b7 _ (by unfold ti;rw[ru (by have:=D.out;omega),ru (by have:=D.out;omega),rv D.out,WX];exact rY ZF);obtain⟨u,d8⟩:∃u:Nat,a3=(u:Int):=⟨a3.toNat,V⟩;have hD:=G g gr;have gi:=G cs gf;have dM:=(L.cell (p:=⟨cs,ff+q,none⟩) gi).trans dd;have j:=vL.out;have b8:∃t,v.items=z::t:=eS;obtain⟨t,b8⟩:=b8;have h2:=cf z (by rw[b8];simp);rw[rP cy,rP cz,rP cS,b8,Z,rW,f3,d8,rW,rU,rU,rU]at j;have d6:=b9 u z h2 V wd X _ n c root hi hg g2 fs hj hn g0 hk ho g1 hl hp (cc.below L G) ha (fun b hb=>by have:=G b hb;omega);simp only at j;rw[<-j]at d6;rw[Z]at y2;rw[d8]at dM;have hO:(q:Int)<(a5:Int):=V;clear cy cz Z WX f3 d8 dd f4 j vL b8 OZ L0 D;subst cS;rw[wX,si]at ek el em en er es;repeat((first|(refine sJ rfl rfl rfl bh ?_)|(refine sN rfl rfl rfl ?_)|(refine sM rfl rfl rfl (wx.heap.size) V _ (by intro w' hb;have y0:=(hb.cell (p:=⟨w.heap.size,0,none⟩) bd).trans y0;have y1:=(hb.cell (p:=⟨w.heap.size,1,none⟩) bd).trans y1;have y2:=(hb.cell (p:=⟨w.heap.size+1,1,none⟩) bd).trans y2;have y3:=(hb.cell (p:=⟨w.heap.size+1,4,none⟩) bd).trans y3;have y4:=(hb.cell (p:=⟨w1.heap.size,9,none⟩) bd).trans y4;have dM:=(hb.cell (p:=⟨cs,ff+q,none⟩) bd).trans dM;have i5:=(hb.cell (p:=⟨g,p,none⟩) bd).trans ek;have i6:=(hb.cell (p:=⟨g,p+1,none⟩) bd).trans el;have i7:=(hb.cell (p:=⟨g,p+2,none⟩) bd).trans em;have i8:=(hb.cell (p:=⟨g,p+3,none⟩) bd).trans en;have i3:=(hb.cell (p:=⟨g,p+4,none⟩) bd).trans er;have i4:=(hb.cell (p:=⟨g,p+5,none⟩) bd).trans es;clear hb;go_simp;first|done|with_reducible rfl) ?_));simp only[Act.put,rB,rz,rA])
         refine sB rfl rfl wx.heap.size rT (fun Q1 sP=> ?_);go_wp2_with fail;refine d6.mono ?_;rintro e' w5 ⟨rfl,Fg⟩;clear d6;go_wp2_with fail;refine sP _ _ (Fg.mono hf) ?_;clear sP;have AZ:=f2.sV V Fg;refine aN ?_;refine sn ?_;exact bR
        ·have hw:((r:Int)==1)=false:=rr.2 V;have nf:=L0 (by rw[vL.out,rF cS];simp);exact bS
       ·have nf:=L0 (by rw[vL.out,rF cz];simp);exact bS
      ·have nf:=L0 (by rw[vL.out,rF cy];simp);exact bS
     have i2:(x.kind==13)=false:=rr.2 ak;have j:=vL.out;rw[ru l,ru m,ru o,ru B,ru E,ru F,ru I,ru O,ru a2,ru ak]at j;subst j;exact bJ
end Go.Proofs.YtccjlcadbpinfaaGreatDoor.Tp
namespace Go.Proofs.YtccjlcadbpinfaaGreatDoor.Tp
open ChangeShapes WideShapes ChangeAt RowKit
open Num Mem Can
open Wr
def Vs(e:Nat)(m:Int)(w:World)(a:w.cell? ⟨e,2,none⟩=some (.slice none 0 0)):Calls Tryz.prog 181 #[.pointer (some ⟨e,0,none⟩),.int .i64 m] w fun r w'=>r=.returned (.tuple #[.int .i64 m,.bool false])/\w=w':=by go_enter Tryz.func181,Tryz.ntmps181;go_wp2_with fail;go_ret2;exact bH
def RY(a:Nat)(lb:Array Value)(w:World)(i:Nat)(y:acM):Prop:=∀w',Below w.heap.size w w'->∀(C:acN)(q d:Nat)(zs:acM),Mem.Own w' w.heap.size C q d zs->q+y.length<=900000->Calls Tryz.prog a (#[.slice C q d,.int .i64 (i:Int)]++lb) w' (RT w.heap.size C w' (q+y.length) (zs++y))
def GF(O:Nat)(cj:∀args w,(callFunc O args).run Tryz.prog w=.ok (.enter O args) w)(lb:Array Value)(a:List acM)(m:Nat)(a2:a.length=m)(cx:m<=2500)(w:World)(e b:Nat)(A:acN)(k c:Nat)(xs:acM)(a4:Mem.Own w b A k c xs)(a1:b<=w.heap.size)(cs:k+a.flatten.length<=900000)(bn:w.cell? ⟨e,2,none⟩=some (.slice none 0 0))(cp:e<w.heap.size)(bp:∀(i:Nat)(y:acM),a[i]? =some y->RY O lb w i y):Calls Tryz.prog 136 #[.pointer (some ⟨e,0,none⟩),.slice A k c,.int .i64 (m:Int),.func (.func O) #[] lb] w (RT b A w (k+(GD a).length) (xs++GD a)):=by
 have cy:=AM 0 V V;have S: -9223372036854775808<=(m:Int)/\(m:Int)<=9223372036854775807:=V;have cz:=AM (m:Int) S.1 S.2;obtain⟨L,F⟩:∃L,L=GD a:=⟨_,rfl⟩;rw[<-F];unfold GD at F;rw[a2]at F;have aa:∀(w':World)(A':acN)(D c':Nat)(U:acM),Mem.Own w' b A' D c' U->b<=w'.heap.size->D<=1000000->Calls Tryz.prog 133 #[.slice A' D c',.int .i64 0] w' (RT b A' w' (D+(Er 0).length) (U++Er 0)):=fun w' A' D c' U Z a0 cl=>HW 0 V V A' D c' U b w' Z a0 V
 have ab:∀(w':World),Mem.Own w' b A k c xs->b<=w'.heap.size->Calls Tryz.prog 133 #[.slice A k c,.int .i64 (m:Int)] w' (RT b A w' (k+(Er (m:Int)).length) (xs++Er (m:Int))):=fun w' Z a0=>HW (m:Int) S.1 S.2 A k c xs b w' Z a0 V
 generalize Er (m:Int)=t at*;generalize Er 0=a9 at*;have W:=rq F;have a8:=rq a2;have a7:=rq aa;have b5:=rq ab;clear F a2 aa ab;go_enter Tryz.func136,Tryz.ntmps136;go_wp2_with fail;go_loopw [1,9] (fun s1 T wr=>(T=.int .i64 0/\s1=.slice A k c/\wr=w)\/(0<m/\T=.int .i64 (m:Int)/\∃(E:acN)(c2:Nat),s1=.slice E (k+(t.length+a.flatten.length)) c2/\Mem.Own wr b E (k+(t.length+a.flatten.length)) c2 (xs++(t++a.flatten))/\Below b w wr/\xm A w E wr)) (fun _ T _=>m-(intOf T).toNat);case atStart=>exact .inl ⟨rfl,rfl,rfl⟩
 case
  round=>
   rcases hrel with⟨rfl,rfl,rfl⟩|⟨aU,rfl,E,c2,rfl,b0,ac,bz⟩
   ·by_cases aU:0<m
    ·have ct:(0:Int)<(m:Int):=V;have hcut:=Vs e (m:Int) wr bn;have c8:wrap64 ((m:Int)-0)=(m:Int):=tG V V;have b2:wrap64 (0+(m:Int))=(m:Int):=by rw[Int.zero_add];exact tG V V
     obtain⟨H,c9⟩:∃H,H=wr:=⟨_,rfl⟩;subst c9;rw[Int.sub_zero]at c8;go_wp2_with fail;refine hcut.mono ?_;rintro ci w1 ⟨rfl,rfl⟩;clear hcut;go_wp2_with fail;go_loopw [12,13] (fun ch a6 wr=>∃(j:Nat)(C:acN)(d:Nat)(zs:acM),a6=.int .i64 j/\j<=m/\ch=.slice C zs.length d/\Mem.Own wr H.heap.size C zs.length d zs/\zs++(a.drop j).flatten=a.flatten/\Below H.heap.size H wr) (fun _ a6 _=>m-(intOf a6).toNat);case atStart=>exact⟨0,none,0,[],rfl,rO _,rfl,uu _ _ _ _,rfl,Below.refl _ _⟩
     case
      round=>
       obtain⟨j,C,d,zs,rfl,cr,rfl,a3,l,z⟩:=hrel;have M:=rq l;clear l;have cc:=z.size;by_cases c3:j<m
       ·have c4:(j:Int)<(m:Int):=V;have ak:j<a.length:=by rw[a8.out];exact c3
        obtain⟨y,a5⟩:∃y,y=a[j]:=⟨_,rfl⟩;have l:=M.out;rw[rH ak,<-a5,tJ,<-rX]at l;have B:=vy List.length l;simp only[rC]at B;have X:=rq l;have af:=bp j y (by rw[ry ak,<-a5]) wr z C zs.length d zs a3 V;clear l M a5 B;go_wp2_with fail;refine af.mono ?_;rintro Y G ⟨b4,bk,rfl,o,n,r⟩;clear af;go_wp2_with fail;refine⟨⟨j+1,b4,bk,zs++y,bi,V,by rw[rC],by rw[rC];exact o,X.out,z.trans n⟩,?_⟩;simp[intOf]<;>omega
       ·have c4:¬(j:Int)<(m:Int):=V;have l:=M.out;rw[so (by rw[a8.out];omega),List.flatten_nil,sw]at l;have c6:=a4.below z;have B:=vy List.length l;have p:=b5.out wr c6 (sG a1 cc);have X:=rq l;have b9:=rq B;have d0:zs.length<=900000:=V;clear l M B;go_upto_if 30 with fail;go_upto_if 37 with fail;go_upto_region 11 with fail;go_wp2_with fail;refine p.mono ?_;rintro Y G ⟨I,N,rfl,o,n,r⟩;clear p;have cS:=n.size;have c7:Rd G G.heap.size C zs.length zs:=⟨rfl,fun c5=>
         by
          obtain⟨g,cf,ad,bx,bv⟩:=a3.rd.2 c5;have hb:=(a3.block _ ad).1;simp only at hb;refine⟨g,cf,ad,V,fun q x cb=>(rD (w:=wr) (r.block g bx (fun h=> ?_))).trans (bv q x cb)⟩;cases A with
          |none=>cases h
          |some be=>have:=a4.block be rfl;exact eM⟩
        go_wp2_with(at_builtin;refine sS rfl rfl o rfl c7 V V ?_;intro b3 bj d1 b1 bs bO);have B:=b9.out;have ar:k+t.length+zs.length=k+(t.length+a.flatten.length):=V;rw[ar,X.out,rX]at b1;refine⟨.inr ⟨aU,by simp[b2],b3,bj,by rw[ar],b1,((z.mono a1).trans n).trans bs,((xm.of z).trans r).trans bO⟩,?_⟩;simp[intOf,b2]<;>omega
    ·obtain rfl:m=0:=V;have p:=a7.out wr A k c xs a4 a1 V;obtain rfl:L=a9:=by rw[W.out];rfl
     clear W;go_upto_region 14 with fail;go_wp2_with fail;refine p.mono ?_;rintro Y G ⟨I,N,rfl,o,n,r⟩;clear p;go_wp2_with fail;go_ret;exact⟨I,N,rfl,o,n,r⟩
   ·obtain⟨K,Q⟩:∃K,K=k+(t.length+a.flatten.length):=⟨_,rfl⟩;rw[<-Q]at b0|-;have b8:=rq Q;have br:K<=1000000:=V;clear Q;go_upto_if 16 with fail;go_upto_region 14 with fail;have p:=a7.out wr E _ c2 _ b0 (by have:=ac.size;omega) br;have v:=W.out;rw[ru V]at v;have R:=vy List.length v;simp only[rC]at R;have b6:=rq R;have b7:=rq v;clear v R;go_wp2_with fail;refine p.mono ?_;rintro Y G ⟨I,N,rfl,o,n,r⟩;clear p;go_wp2_with fail;go_ret;have R:=b6.out;have v:=b7.out;have Q:=b8.out;have an:K+a9.length=k+L.length:=V;rw[an,rX,<-v]at o;exact⟨I,N,by rw[an];rfl,o,ac.trans n,bz.trans r⟩
def DQ{a:Nat->rp->Bool}{of:Nat->Int}:∀(l:List rp)(j:Nat),Dl a of j l=true->∀(i:Nat)(y:rp),l[i]? =some y->a (of (j+i)).toNat y=true
 | [],_,_,i,y,h=>fW
 |x::r,j,h,i,y,hy=>
 by
  simp only[Dl,rG]at h;cases i with
  |zero=>simp at hy;subst hy;exact h.1
  |succ i=>have:=DQ r (j+1) h.2 i y kR;rw[show j+(i+1)=j+1+i from V];exact this
def MW.item{v y:rp}(h:MW v)(a:y∈v.items):MW y:=by cases h with|mk _ hi=>exact hi y a
def Xi(S:List Nd)(f:Nat):Prop:=∀(a:Nat)(v:rp),PN f v->wQ S f a v=true->a<S.length->∀(w:World)(X:acO)(A:acN)(n c e:Nat),tV w X A n S->w.cell? ⟨e,0,none⟩=some (.slice A n c)->w.cell? ⟨e,2,none⟩=some (.slice none 0 0)->∀(k i:Int)(b:Nat)(h:acN)(o t:Nat)(j:acN)(p x:Nat)(l:acN)(r y:Nat),A9 w X (vq k i b h o t j p x l r y) v->∀(g:Nat)(B:acN)(m d:Nat)(xs:acM),(∀q,X q->q<g)->e<g->g<=w.heap.size->Mem.Own w g B m d xs->m+(xb S f a v).length<=900000->Calls Tryz.prog 74 #[.pointer (some ⟨e,0,none⟩),.slice B m d,.int .i64 (a:Int),.agg #[.int .i64 k,.int .i64 i,.int .u64 (b:Int),.slice h o t,.slice j p x,.slice l r y]] w (RT g B w (m+(xb S f a v).length) (xs++xb S f a v))
def TT(S:List Nd)(f:Nat)(c3:Xi S f)(x:Nd)(v:rp)(a0:∀y∈v.items,PN f y)(u:Nat)(a4:x.items=(u:Int))(bs:u<S.length)(i:Nat)(y:rp)(hy:v.items[i]? =some y)(W:wQ S f u y=true)(w:World)(X:acO)(A:acN)(n c e l j m:Nat)(a3:tV w X A n S)(b3:w.cell? ⟨e,0,none⟩=some (.slice A n c))(b4:w.cell? ⟨e,2,none⟩=some (.slice none 0 0))(D:acN)(t c8:Nat)(css:List (List Value))(hit:Row w X 6 D t css)(Z:css.length=v.items.length)(Y:∀(i:Nat)(h:i<css.length)(O:i<v.items.length),A9 w X css[i] v.items[i])(b:∀q,X q->q<w.heap.size)(z:e<w.heap.size)(b5:w.cell? ⟨l,0,none⟩=some (.pointer (some ⟨e,0,none⟩)))(U:w.cell? ⟨j,8,none⟩=some (.int .i64 x.items))(b6:w.cell? ⟨m,4,none⟩=some (.slice D t c8))(br:l<w.heap.size)(bk:j<w.heap.size)(bv:m<w.heap.size):RY 137 #[.pointer (some ⟨l,0,none⟩),.pointer (some ⟨j,0,none⟩),.pointer (some ⟨m,0,none⟩)] w i (xb S f u y):=by
 intro w' hb C q d zs bn bj;have be:i<t:=ot;obtain⟨g,p,r,c4,bO,ad,a6,c5,c1,a7,c6,c2,a8,c7,af,rfl,b8,ZL,bx,H,I,K,L,M,N⟩:=CK (Row.below hit hb b) Z (fun i h O=>(Y i h O).stay hb b) be;obtain rfl:r=y:=kK;have cc:(i:Int)<(t:Int):=V;have cb:=b g b8;have bz:=hb.size;rw[a4]at U;have E:=(hb.cell (p:=⟨l,0,none⟩) br).trans b5;have F:=(hb.cell (p:=⟨j,8,none⟩) bk).trans U;have G:=(hb.cell (p:=⟨m,4,none⟩) bv).trans b6;have a2:=fun a5(o:Below w'.heap.size w' a5)=>c3 u r (a0 r (rL hy)) W bs a5 X A n c e ((a3.below hb b).below o (fun q B=>by have:=b q B;omega)) (((o.cell (p:=⟨e,0,none⟩) bd).trans (hb.cell (p:=⟨e,0,none⟩) z)).trans b3) (((o.cell (p:=⟨e,2,none⟩) bd).trans (hb.cell (p:=⟨e,2,none⟩) z)).trans b4) c4 bO ad a6 c5 c1 a7 c6 c2 a8 c7 af (bx.stay o (fun q B=>by have:=b q B;omega)) w.heap.size C q d zs b z (by have:=o.size;omega) (bn.below o) bj
 generalize xb S f u r=cy at*;clear hy ZL W a0 hit Y Z a3 a4;go_enter Tryz.func137,Tryz.ntmps137;go_upto_region 1 with fail;refine su [0,1,2,3,4,5,6,7,8,9,10] [9] bg bg bi bg (fun _ _ d _ _ h=>bw) (fun wd a sW=> ?_);clear sW;have a1:=a2 wd a;have cf:=a.size;have aa:=(a.cell (p:=⟨l,0,none⟩) bd).trans E;have ab:=(a.cell (p:=⟨j,8,none⟩) bd).trans F;have ac:=(a.cell (p:=⟨m,4,none⟩) bd).trans G;have an:=(a.cell (p:=⟨g,p+i*6,none⟩) bd).trans H;have ar:=(a.cell (p:=⟨g,p+i*6+1,none⟩) bd).trans I;have aU:=(a.cell (p:=⟨g,p+i*6+2,none⟩) bd).trans K;have b0:=(a.cell (p:=⟨g,p+i*6+3,none⟩) bd).trans L;have b1:=(a.cell (p:=⟨g,p+i*6+4,none⟩) bd).trans M;have b2:=(a.cell (p:=⟨g,p+i*6+5,none⟩) bd).trans N;have b7:=a.mono bz;clear a2 H I K L M N E F G;repeat((first|(refine sJ rfl rfl rfl bh ?_)|(refine sN rfl rfl rfl ?_)|(refine sM rfl rfl rfl (w.heap.size) V _ (by intro w' hb;have r:=(hb.cell (p:=⟨l,0,none⟩) bd).trans aa;have ci:=(hb.cell (p:=⟨j,8,none⟩) bd).trans ab;have cj:=(hb.cell (p:=⟨m,4,none⟩) bd).trans ac;have cl:=(hb.cell (p:=⟨g,p+i*6,none⟩) bd).trans an;have cp:=(hb.cell (p:=⟨g,p+i*6+1,none⟩) bd).trans ar;have cr:=(hb.cell (p:=⟨g,p+i*6+2,none⟩) bd).trans aU;have cs:=(hb.cell (p:=⟨g,p+i*6+3,none⟩) bd).trans b0;have ct:=(hb.cell (p:=⟨g,p+i*6+4,none⟩) bd).trans b1;have cx:=(hb.cell (p:=⟨g,p+i*6+5,none⟩) bd).trans b2;clear hb;go_simp;first|done|with_reducible rfl) ?_));simp only[Act.put,rB,rz,rA])
 refine sB rfl rfl w.heap.size rT (fun c9 R=> ?_);go_wp2_with fail;refine a1.mono ?_;rintro e' ch ⟨a9,ak,rfl,bp,T,b9⟩;clear a1;go_wp2_with fail;refine R _ _ T ?_;clear R;refine aN ?_;refine sn ?_;go_wp2_with fail;go_ret;exact⟨a9,ak,rfl,bp,b7.trans T,(xm.of a).trans b9⟩
def TU(S:List Nd)(f:Nat)(dN:Xi S f)(x:Nd)(v:rp)(bO:∀y∈v.items,PN f y)(u:Nat)(c7:x.items=(u:Int))(dB:u<S.length)(i:Nat)(y:rp)(hy:v.items[i]? =some y)(bv:wQ S f u y=true)(w:World)(X:acO)(A:acN)(n c e D B j:Nat)(c5:tV w X A n S)(cy:w.cell? ⟨e,0,none⟩=some (.slice A n c))(cz:w.cell? ⟨e,2,none⟩=some (.slice none 0 0))(a1:acN)(I e0:Nat)(css:List (List Value))(hit:Row w X 6 a1 I css)(bz:css.length=v.items.length)(bx:∀(i:Nat)(h:i<css.length)(be:i<v.items.length),A9 w X css[i] v.items[i])(m:∀q,X q->q<w.heap.size)(L:e<w.heap.size)(a2:acN)(K e1:Nat)(N:Row w X 1 a2 K (uF v.keys))(b:acM)(M:v.keys[i]? =some b)(e8:b.length<=2500)(cS:w.cell? ⟨j,5,none⟩=some (.slice a2 K e1))(d0:w.cell? ⟨D,0,none⟩=some (.pointer (some ⟨e,0,none⟩)))(bp:w.cell? ⟨B,8,none⟩=some (.int .i64 x.items))(d1:w.cell? ⟨j,4,none⟩=some (.slice a1 I e0))(ds:D<w.heap.size)(di:B<w.heap.size)(c8:j<w.heap.size):RY 138 #[.pointer (some ⟨D,0,none⟩),.pointer (some ⟨j,0,none⟩),.pointer (some ⟨B,0,none⟩)] w i (Po b++xb S f u y):=by
 intro w' hb C q d zs dj df;have d8:i<I:=ot;obtain⟨g,p,E,cb,c9,a8,T,cc,c1,U,cf,c2,W,ch,a9,rfl,d3,ZL,dI,ar,aU,b0,b1,b2,b3⟩:=CK (Row.below hit hb m) bz (fun i h be=>(bx i h be).stay hb m) d8;obtain rfl:E=y:=kK;have e7:(i:Int)<(I:Int):=V;have e6:=m g d3;have dM:=hb.size;rw[c7]at bp;have e9:i<K:=by have:=(rK.1 M).1;have:=N.len;simp[uF]at this;omega
 have ea:(i:Int)<(K:Int):=V;obtain⟨G,R,rfl,d4,bs⟩:=N.pos V;have H:=(bs i [sv b] (by simp[uF,M])).2 0 (sv b) rfl;rw[tv,si]at H;unfold sv at H;have d5:=m G d4;have ak:=(hb.cell (p:=⟨j,5,none⟩) c8).trans cS;have an:=(hb.cell (p:=⟨G,R+i,none⟩) d5).trans H;have ab:=(hb.cell (p:=⟨D,0,none⟩) ds).trans d0;have ad:=(hb.cell (p:=⟨B,8,none⟩) di).trans bp;have af:=(hb.cell (p:=⟨j,4,none⟩) c8).trans d1;have Z:∀o,Below w.heap.size w o->A9 o X (vq cb c9 a8 T cc c1 U cf c2 W ch a9) E:=fun o z=>dI.keep (fun r c6=>((z.cell (m _ c6)).trans (hb.cell (m _ c6)).symm)) (fun _ h=>h)
 have c4:=fun o(z:Below w.heap.size w o) Y ci aa cl(dk:Mem.Own o w.heap.size Y ci aa cl) d9=>dN u E (bO E (rL hy)) bv dB o X A n c e (c5.below z m) ((z.cell (p:=⟨e,0,none⟩) L).trans cy) ((z.cell (p:=⟨e,2,none⟩) L).trans cz) cb c9 a8 T cc c1 U cf c2 W ch a9 (Z o z) w.heap.size Y ci aa cl m L z.size dk d9
 generalize xb S f u E=cj at*;clear hy ZL bv bO hit bx bz c5 c7 M bs N;go_enter Tryz.func138,Tryz.ntmps138;go_upto_region 1 with fail;refine su [0,1,2,3,4,5,6,9,10,11,12,13,14,15,7,8,16,17] [7,8,16] bg bg bi bg (fun _ _ d _ _ h=>bw) (fun wd a sW=> ?_);clear sW;have ei:=a.size;have d2:=a.mono dM;have a3:=(a.cell (p:=⟨D,0,none⟩) bd).trans ab;have a6:=(a.cell (p:=⟨j,5,none⟩) bd).trans ak;have a7:=(a.cell (p:=⟨G,R+i,none⟩) bd).trans an;have c3:=dj.below a;have eb:=Ka b V;have a4:=(a.cell (p:=⟨B,8,none⟩) bd).trans ad;have a5:=(a.cell (p:=⟨j,4,none⟩) bd).trans af;have b4:=(a.cell (p:=⟨g,p+i*6,none⟩) bd).trans ar;have b5:=(a.cell (p:=⟨g,p+i*6+1,none⟩) bd).trans aU;have b6:=(a.cell (p:=⟨g,p+i*6+2,none⟩) bd).trans b0;have b7:=(a.cell (p:=⟨g,p+i*6+3,none⟩) bd).trans b1;have b8:=(a.cell (p:=⟨g,p+i*6+4,none⟩) bd).trans b2;have b9:=(a.cell (p:=⟨g,p+i*6+5,none⟩) bd).trans b3;repeat((first|(refine sJ rfl rfl rfl bh ?_)|(refine sN rfl rfl rfl ?_)|(refine sM rfl rfl rfl (w.heap.size) V _ (by intro w' hb;have E:=(hb.cell (p:=⟨D,0,none⟩) bd).trans a3;have el:=(hb.cell (p:=⟨j,5,none⟩) bd).trans a6;have en:=(hb.cell (p:=⟨G,R+i,none⟩) bd).trans a7;have er:=(hb.cell (p:=⟨B,8,none⟩) bd).trans a4;have es:=(hb.cell (p:=⟨j,4,none⟩) bd).trans a5;have et:=(hb.cell (p:=⟨g,p+i*6,none⟩) bd).trans b4;have f0:=(hb.cell (p:=⟨g,p+i*6+1,none⟩) bd).trans b5;have f1:=(hb.cell (p:=⟨g,p+i*6+2,none⟩) bd).trans b6;have f2:=(hb.cell (p:=⟨g,p+i*6+3,none⟩) bd).trans b7;have f3:=(hb.cell (p:=⟨g,p+i*6+4,none⟩) bd).trans b8;have em:=(hb.cell (p:=⟨g,p+i*6+5,none⟩) bd).trans b9;clear hb;go_simp;first|done|with_reducible rfl) ?_));simp only[Act.put,rB,rz,rA])
 refine sB rfl rfl w.heap.size rT (fun a0 l=> ?_);go_wp2_with(refine za (t:=b) rfl rfl ?_;intro ct e2 e5 dz F ef);refine l _ _ (F.mono V) ?_;clear l a3 a6 a7 a4 a5 b4 b5 b6 b7 b8 b9;have eg:=F.size;have br:=Hp C (some ⟨wd.heap.size,0,none⟩) q d b.length ct w.heap.size (wd.heap.size+1) zs b e2 (c3.below F) V dz V (fun _ e4 e h=>by injection e with e;subst e;cases C with|none=>cases h|some ac=>(have:=(c3.block ac rfl).2;simp only[uj,sb]at h;omega)) V V;refine sB rfl rfl w.heap.size rT (fun a0 l=> ?_);go_wp2_with fail;refine br.mono ?_;rintro e' e3 ⟨cr,cx,rfl,dr,bn,d7⟩;clear br;go_wp2_with fail;refine l _ _ bn ?_;clear l;have bj:=(d2.trans (F.mono (by omega:w.heap.size<=wd.heap.size))).trans bn;have dK:=hb.trans bj;have O:=c4 e3 dK cr _ cx _ dr (by rw[rC]at df;omega);clear c4 ar aU b0 b1 b2 b3 ab ad af ak an H Z;have dd:q+(Po b).length+cj.length=q+(Po b++cj).length:=ez;rw[dd,rX]at O;repeat((first|(refine sJ rfl rfl rfl bh ?_)|(refine sN rfl rfl rfl ?_)|(refine sM rfl rfl rfl (w.heap.size) V _ bB ?_));simp only[Act.put,rB,rz,rA])
 refine sB rfl rfl w.heap.size rT (fun a0 l=> ?_);go_wp2_with fail;refine O.mono ?_;rintro e' ek ⟨cp,cs,rfl,dp,bk,d6⟩;clear O;go_wp2_with fail;refine l _ _ bk ?_;clear l;refine aN ?_;refine sn ?_;go_wp2_with fail;go_ret;exact⟨cp,cs,by first|rfl|simp[rC],dp,bj.trans bk,(((xm.of a).trans (xm.of F)).trans d7).trans d6⟩
end Go.Proofs.YtccjlcadbpinfaaGreatDoor.Tp
namespace Go.Proofs.YtccjlcadbpinfaaGreatDoor.Tp
open ChangeShapes WideShapes ChangeAt RowKit
open Num Mem Can
def Sz:∀(l:List acM)(n:Int),n<=5001->(Ig l n).1<=5001
 | [],n,h=>h
 |k::r,n,h=>
 by
  unfold Ig;split
  ·split;·simp
   ·exact Sz r _ V
  ·exact h
def SB{b:rp->Int}{M:Int}(h:∀x,b x<=M):∀(l:List rp)(n:Int),n<=M+6000->(0<=M)->OF b l n<=M+6000
 | [],n,a,_=>a
 |x::r,n,a,d=>
 by
  unfold OF;split;·exact SB h r _ (by have:=h x;omega) d
  ·exact a
def OI:∀(f:Nat)(v:rp),wB f v<=6000*((f:Int)+1)
 |0,_=>by simp[wB]
 |f+1,v=>
 by
  unfold wB;split;·omega
  ·rename_i a;split;·omega
   ·simp only[wN,rQ,NV]at a;have:=SB (M:=6000*((f:Int)+1)) (OI f) v.items (Ig v.keys (1+(v.bytes.length:Int))).1 (by have:=Sz v.keys (1+(v.bytes.length:Int)) V;omega) V;omega
def RO:∀(f:Nat)(v:rp)(d:Nat),d+f=81->∀(w:World)(X:acO)(k i:Int)(b:Nat)(y:acN)(n C:Nat)(z:acN)(m D:Nat)(A:acN)(l E:Nat),A9 w X (vq k i b y n C z m D A l E) v->(∀b,X b->b<w.heap.size)->Calls Tryz.prog 23 #[.agg #[.int .i64 k,.int .i64 i,.int .u64 (b:Int),.slice y n C,.slice z m D,.slice A l E],.int .i64 2500,.int .i64 (d:Int)] w fun e w'=>e=.returned (.int .i64 (wB f v))/\Below w.heap.size w w':=by
 intro f;induction f with
 |zero=>intro v d bn w X k i b y n C z m D A l E af hX;have bp:(80:Int)<(d:Int):=V;have tm:=(acQ w).al rT (vo k i b y n C z m D A l E);unfold wB;go_enter Tryz.func23,Tryz.ntmps23;exact bL
 |succ f c4=>
  intro v d bn w X k i b y n C z m D A l E af hX;obtain⟨⟨rfl,rfl,rfl⟩,XN,⟨css,hit,bs,br⟩,WZ, -,cp, -, -⟩:=af.inv;have U:v.bytes.length=n:=iL;have W:v.items.length=m:=gR;have Y:v.keys.length=l:=oF;have bp:¬(80:Int)<(d:Int):=V;have tm:=(acQ w).al rT (vo v.kind v.int v.bits y n C z m D A l E);have L:Bx (w.alloc (vo v.kind v.int v.bits y n C z m D A l E)) w.heap.size _:=Bx.new w _ _ _ rfl;have bv:w.heap.size<(w.alloc (vo v.kind v.int v.bits y n C z m D A l E)).heap.size:=bi;obtain⟨R,o⟩:∃R,R=wB (f+1) v:=⟨_,rfl⟩;rw[<-o];unfold wB at o;rw[U,W,Y]at o;have t:=rq o;have HL:=rq (And.intro U (And.intro W Y));clear o U W Y;go_enter Tryz.func23,Tryz.ntmps23;go_upto_region 1 with fail;generalize w.alloc (vo v.kind v.int v.bits y n C z m D A l E)=w1 at*;have c5:=L.c 3 _ rfl;have ar:=L.c 4 _ rfl;have c6:=L.c 5 _ rfl;by_cases a3:2500<n
  ·have b4:(2500:Int)<(n:Int):=V;obtain rfl:R=2501:=by rw[t.out,rv (by simp[a3])]
   clear t;exact bL
  have b4:¬(2500:Int)<(n:Int):=V;by_cases a4:2500<m
  ·have b5:(2500:Int)<(m:Int):=V;obtain rfl:R=2501:=by rw[t.out,rv (by simp[a4])]
   clear t;exact bL
  have b5:¬(2500:Int)<(m:Int):=V;by_cases a5:2500<l
  ·have b6:(2500:Int)<(l:Int):=V;obtain rfl:R=2501:=by rw[t.out,rv (by simp[a5])]
   clear t;exact bL
  have b6:¬(2500:Int)<(l:Int):=V;have o:=t.out;rw[ru (by simp[a3,a4,a5])]at o;have I:=rq o;have a6:1+(n:Int)<=5001:=V;clear o t;go_upto_region 4 with fail;go_wp2_with fail;go_loopw [7,8] (fun Z a0 wr=>∃(j:Nat)(N:Int),a0=.int .i64 j/\j<=l/\Z=.int .i64 N/\(0<=N/\N<=5001)/\Ig (v.keys.drop j) N=Ig v.keys (1+(n:Int))/\wr=w1) (fun _ a0 _=>l-(intOf a0).toNat);case atStart=>exact⟨0,1+(n:Int),rfl,rO _,rfl,V,rfl,rfl⟩
  case
   round=>
    obtain⟨j,N,rfl,cs,rfl,cl,a,an⟩:=hrel;have bO:=an.symm;clear an;subst bO;have r:=rq a;clear a;by_cases Ar:j<l/\N<=2500
    ·obtain⟨Ar,a7⟩:=Ar;have ad:(j:Int)<(l:Int):=V;have Cl:j<v.keys.length:=by rw[HL.out.2.2];exact Ar
     have H:=rH Cl;obtain⟨g,q,F,S,a9⟩:=WZ.pos V;have Q:=(a9 j [sv v.keys[j]] (by simp[uF,Cl])).2 0 (sv v.keys[j]) rfl;rw[tv,si]at Q;have ab:=hX g S;have bk:=(tm.cell (p:=⟨g,q+j,none⟩) ab).trans Q;generalize v.keys[j]=x at*;subst F;unfold sv at bk;have a:=r.out;rw[H,Ig,rv a7]at a;have G:=rq a;clear a r H Q a9 Cl;by_cases hx:2500<x.length
     ·have c3:(2500:Int)<(x.length:Int):=V;have a:=G.out;rw[rv hx]at a;obtain rfl:R=2501:=by rw[I.out,<-a];rfl
      clear I G a;exact bL
     ·have c3:¬(2500:Int)<(x.length:Int):=V;have a:=G.out;rw[ru hx]at a;have b2:=rq a;clear a G;have cx:wrap64 (N+1)=N+1:=tG V V;have cy:wrap64 (N+1+(x.length:Int))=N+1+(x.length:Int):=tG V V;go_wp2_with fail;refine⟨⟨j+1,N+1+(x.length:Int),bi,V,rfl,V,b2.out,ng⟩,?_⟩;exact bK
    ·have aa:Ig v.keys (1+(n:Int))=(N,false):=by
      rw[<-r.out];by_cases ac:j<l
      ·have Cl:j<v.keys.length:=by rw[HL.out.2.2];exact ac
       rw[rH Cl,Ig,ru V]
      ·rw[so (by rw[HL.out.2.2];omega),Ig]
     have o:=I.out;rw[aa,ru bi]at o;have t:=rq o;clear o I r aa;have a2:∀P:Prop,(∀(F:¬(j:Int)<(l:Int)),P)->(∀(F:(j:Int)<(l:Int))(b9:¬N<=2500),P)->P:=fun P a6 b8=>
      by
       by_cases F:(j:Int)<(l:Int);·exact b8 F V
       ·exact a6 F
     refine a2 _ (fun F=> ?_) (fun F b9=> ?_);all_goals
      clear a2 Ar;go_upto_region 10 with fail;go_wp2_with fail;go_loopw [7,9] (fun Z a1 wr=>∃(j:Nat)(N:Int),a1=.int .i64 j/\j<=m/\Z=.int .i64 N/\(0<=N/\N<=1000000)/\OF (wB f) (v.items.drop j) N=R/\Below w1.heap.size w1 wr) (fun _ a1 _=>m-(intOf a1).toNat);case atStart=>exact⟨0,N,rfl,rO _,rfl,V,t.out.symm,Below.refl _ _⟩
      case
       round=>
        obtain⟨B,K,rfl,ac,rfl,a7,a,M⟩:=hrel;have r:=rq a;clear a t c5 ar c6;have U3:=tm.sV V M;have cS:=M.size;have ar:=(L.below M bv).c 4 _ rfl;by_cases Ar:B<m
        ·have ad:(B:Int)<(m:Int):=V;by_cases a8:K<=2500;·obtain⟨g,p,x,k,i,b,aU,c7,c1,b0,c8,c2,b1,c9,b3,rfl,S,hx,bx,cb,cc,cf,ch,ci,cj⟩:=CK (Row.below hit U3 hX) bs (fun i h b7=>(br i h b7).stay U3 hX) Ar;have ab:=hX g S;have Cl:B<v.items.length:=ky;have QE:v.items[B]=x:=ev;have H:v.items.drop B=x::v.items.drop (B+1):=im;have a:=r.out;rw[H,OF,rv a8]at a;have ct:=OI f x;have cr:=FQ f x;have ak:((d+1:Nat):Int)=(d:Int)+1:=V;have T:=c4 x (d+1) V wr X k i b aU c7 c1 b0 c8 c2 b1 c9 b3 bx (fun b hb=>bl);rw[ak]at T;generalize wB f x=O at*;have G:=rq a;clear a H QE hx r Cl ak;have bz:wrap64 ((d:Int)+1)=(d:Int)+1:=tG V V;go_wp2_with fail;refine T.mono ?_;rintro e' d0 ⟨rfl,be⟩;clear T bz;have cz:wrap64 (K+O)=K+O:=tG V V;have bj:=M.sV rT be;go_wp2_with fail;refine⟨⟨B+1,K+O,bi,V,rfl,V,G.out,bj⟩,?_⟩;exact bK
         ·have Cl:B<v.items.length:=ky;have a:=r.out;rw[rH Cl,OF,ru a8]at a;subst a;clear r;exact eN
        ·have ad:¬(B:Int)<(m:Int):=V;have a:=r.out;rw[so (by rw[HL.out.2.1];omega),OF]at a;subst a;clear r;exact eN
def PI(v:rp)(w:World)(X:acO)(k i:Int)(b:Nat)(a:acN)(j n:Nat)(d:acN)(l o:Nat)(g:acN)(m p:Nat)(t:A9 w X (vq k i b a j n d l o g m p) v)(hX:∀b,X b->b<w.heap.size):Calls Tryz.prog 6 #[.agg #[.int .i64 k,.int .i64 i,.int .u64 (b:Int),.slice a j n,.slice d l o,.slice g m p]] w fun e w'=>e=.returned (.bool (decide (2500<wB 81 v)))/\Below w.heap.size w w':=by have q:=(acQ w).al rT (vo k i b a j n d l o g m p);have r:=RO 81 v 0 rfl (w.alloc (vo k i b a j n d l o g m p)) X k i b a j n d l o g m p (t.stay q hX) (fun b hb=>ey);generalize wB 81 v=x at*;go_enter Tryz.func6,Tryz.ntmps6;go_wp2_with fail;refine r.mono ?_;rintro e' y ⟨rfl,hb⟩;clear r;go_wp2_with fail;go_ret;exact⟨rfl,q.sV rT hb⟩
