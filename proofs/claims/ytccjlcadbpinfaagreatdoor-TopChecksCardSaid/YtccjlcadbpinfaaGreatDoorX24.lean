import Derived.Test.YtccjlcadbpinfaaGreatDoorX23
set_option linter.all false
set_option maxRecDepth 100000
set_option maxHeartbeats 16000000
namespace Go.Proofs.YtccjlcadbpinfaaGreatDoor.Tp
open ChangeShapes WideShapes ChangeAt RowKit
open Num Mem Can
inductive Tw(w:World)(X:afu):List Value->Fd->Prop
 |mk {f:Fd} {A:aft} {n c:Nat} {k i:Int} {t:ByteArray} {B:aft} {m d:Nat} {B':aft} {m' d':Nat} (ha:Row w X 1 A n (uL f.aliases)) (hc:n<=c) (hn:n<=9223372036854775807) (hs:∀a∈f.aliases,a.length<=9223372036854775807) (hl:f.name.length<=9223372036854775807) (ht: -9223372036854775808<=f.type/\f.type<=9223372036854775807) (hj:Np w X (jv k i t B m d B' m' d') f.sL):Tw w X (fL f A n c k i t B m d B' m' d') f
def Tw.keep{w w':World}{X:afu}{cs:List Value}{f:Fd}(h:Tw w X cs f)(a:∀q:Addr,X q.block->w'.cell? q=w.cell? q):Tw w' X cs f:=by
 cases h with
 |mk b d i j g k e=>exact .mk (b.keep a ug) d i j g k (e.keep a)
def D9{b:Type}(P:List Value->b->Prop)(k:Nat)(w:World)(X:afu)(A:aft)(n:Nat)(l:List b):Prop:=∃a,Row w X k A n a/\a.length=l.length/\∀(i:Nat)(h:i<a.length)(d:i<l.length),P a[i] l[i]
def D9.len{a:Type}{P:List Value->a->Prop}{k:Nat}{w:World}{X:afu}{A:aft}{n:Nat}{l:List a}(h:D9 P k w X A n l):l.length=n:=gy
def D9.keep{b:Type}{P P':List Value->b->Prop}{k:Nat}{w w':World}{X:afu}{A:aft}{n:Nat}{l:List b}(h:D9 P k w X A n l)(o:∀q:Addr,X q.block->w'.cell? q=w.cell? q)(m:∀cs x,x∈l->P cs x->P' cs x):D9 P' k w' X A n l:=by obtain⟨d,e,g,j⟩:=h;exact⟨d,e.keep o ug,g,fun i h a=>m _ _ (sj a) (j i h a)⟩
def D9.at_{b:Type}{P:List Value->b->Prop}{k:Nat}{w:World}{X:afu}{A:aft}{n:Nat}{l:List b}(h:D9 P k w X A n l){j:Nat}(y:j<n):∃g p x cs,A=some ⟨g,p,none⟩/\X g/\l[j]? =some x/\P cs x/\∀(i:Nat)(v:Value),cs[i]? =some v->w.cell? (rN g (p+j*k+i))=some v:=by have z:=h.len;obtain⟨a,d,t,e⟩:=h;obtain⟨g,p,m,q,o⟩:=d.pos V;exact⟨g,p,l[j],a[j],m,q,rD V,e j V V,fun i v r=>by rw[Cs];exact(o j a[j] (rD V)).2 i v r⟩
inductive Tx(w:World)(X:afu):List Value->Nd->Prop
 |mk {x:Nd} {A1:aft} {n1 c1:Nat} {A2:aft} {n2 c2:Nat} {A3:aft} {n3 c3:Nat} {A4:aft} {n4 c4:Nat} (h1:Row w X 1 A1 n1 (uL x.aliases)) (h2:D9 (Tw w X) 9 w X A2 n2 x.fields) (h3:Row w X 1 A3 n3 (uL x.symbols)) (h4:Row w X 1 A4 n4 (xZ x.rX)) (hc:(n1<=c1/\n2<=c2)/\n3<=c3/\n4<=c4) (hn:(n1<=9223372036854775807/\n2<=9223372036854775807)/\n3<=9223372036854775807/\n4<=9223372036854775807) (hl:x.name.length<=9223372036854775807/\x.sL.length<=9223372036854775807) (hs:(∀a∈x.aliases,a.length<=9223372036854775807)/\∀a∈x.symbols,a.length<=9223372036854775807) (hi: -9223372036854775808<=x.items/\x.items<=9223372036854775807) (hb:∀b∈x.rX, -9223372036854775808<=b/\b<=9223372036854775807):Tx w X (nL x A1 n1 c1 A2 n2 c2 A3 n3 c3 A4 n4 c4) x
def Tx.keep{w w':World}{X:afu}{cs:List Value}{x:Nd}(h:Tx w X cs x)(a:∀q:Addr,X q.block->w'.cell? q=w.cell? q):Tx w' X cs x:=by
 cases h with
 |mk b d e g i l k m j hb=>exact .mk (b.keep a ug) (d.keep a fun _ _ _ h=>h.keep a) (e.keep a ug) (g.keep a ug) i l k m j hb
abbrev CQ(w:World)(X:afu)(A:aft)(n:Nat)(l:List Nd):Prop:=D9 (Tx w X) 10 w X A n l
def CQ.keep{w w':World}{X:afu}{A:aft}{n:Nat}{l:List Nd}(h:CQ w X A n l)(a:∀q:Addr,X q.block->w'.cell? q=w.cell? q):CQ w' X A n l:=D9.keep h a fun _ _ _ h=>h.keep a
def VR:∀(l:List afs)(n:Int),0<=n->n<=5001->0<=VQ l n/\VQ l n<=5001
 | [],n,b,d=>⟨b,d⟩
 |a::r,n,b,d=>
 by
  simp only[VQ];split
  ·split;·omega
   ·exact VR r _ V V
  ·exact⟨b,d⟩
def DW(l:List afs):0<=GI l/\GI l<=5001:=by
 unfold GI;split;·omega
 ·exact VR l _ V V
def Nr:List Fd->Int->Int
 | [],n=>n
 |f::r,n=>if n<=2500 then(if 2500<(f.name.length:Int)then 2501 else Nr r (n+f.name.length+GI f.aliases+Gd 61 f.sL))else n
def PQ:List Nd->Int->Int
 | [],n=>n
 |x::r,n=>if n<=2500 then(if 2500<(x.name.length:Int)\/2500<(x.fields.length:Int)\/2500<(x.rX.length:Int)\/2500<(x.sL.length:Int)then 2501 else PQ r (Nr x.fields (n+x.name.length+x.fields.length+x.rX.length+x.sL.length+GI x.aliases+GI x.symbols)))else n
def Zu(S:List Nd):Int:=if 2500<(S.length:Int)then 2501 else PQ S S.length
def Gt{l:List Nd}{n:Int}(h:2500<n):PQ l n=n:=by
 cases l with
 |nil=>rfl
 |cons x r=>simp only[PQ];exact nQ
def W5{l:List Fd}{n:Int}(h:2500<n):Nr l n=n:=by
 cases l with
 |nil=>rfl
 |cons x r=>simp only[Nr];exact nQ
def T7(S:List Nd)(root:Int)(w:World)(X:afu)(hX:∀b,X b->b<w.heap.size)(A:aft)(n c:Nat)(cA:CQ w X A n S)(g9:n<=9223372036854775807):Calls Tryz.prog 87 #[.agg #[.slice A n c,.int .i64 root],.int .i64 2500] w (vh w (.int .i64 (Zu S))):=by
 have sK:=(afw w).al rV (sC A n c root);have b6:=sK.yg;have bn:=sK.l1;have bk:=cA.len;obtain⟨R,Z⟩:=sW (Zu S);rw[<-Z];unfold Zu at Z;rw[bk]at Z;have aa:=rz Z;have HL:=rz bk;clear Z bk;go_enter Tryz.func87,Tryz.ntmps87;go_upto_region 1 with fail;generalize w.alloc _=w1 at*;have cb:=b6.c 0 _ rfl;have cc:=b6.c 1 _ rfl;by_cases hb:(2500:Int)<(n:Int)
 ·obtain rfl:R=2501:=by rw[aa.out,rG hb]
  clear aa;exact bL
 have c6:=rz (show R=PQ S n from by rw[aa.out,rB hb]);clear aa;go_wp2_with fail;go_loopw [5,6] (fun bw bx wr=>∃(j:Nat)(N:Int),bx=.int .i64 j/\bw=.int .i64 N/\j<=n/\0<=N/\N<=1000000/\R=PQ (S.drop j) N/\Below w1.heap.size w1 wr) (fun _ bx _=>n-(intOf bx).toNat);case atStart=>exact⟨0,n,rfl,rfl,sb _,V,V,c6.out,Below.refl _ _⟩
 case
  round=>
   clear c6;obtain⟨j,N,rfl,rfl,g4,fE,fS,a0,b2⟩:=hrel;obtain⟨wo,f7⟩:=sW wr;subst f7;have gd:=b2.size;have Ac:=sK.trans (b2.mono (zE bn));have c3:=b6.below b2 bn;have cb:=c3.c 0 _ rfl;have cc:=c3.c 1 _ rfl;have key:2500<N\/j=n->R=N:=fun h=>
    by
     rcases h with h|h;·rw[a0];exact Gt h
     ·rw[a0,sx da];rfl
   have C:=rz key;clear key;by_cases a5:j<n/\N<=2500
   ·obtain⟨f2,ei⟩:=a5;have g5:(j:Int)<(n:Int):=V;obtain⟨g,p,x,cs,rfl,g2,hx,bj,e⟩:=(CQ.keep cA (fun q t=>Ac.cell (hX _ t))).at_ f2;have ct:S.drop j=x::S.drop (j+1):=gN;clear hx C;cases bj with
    |mk d4 bv d5 d6 g1 cy g8 cR g3 g0=>
     rename_i b3 br c1 b4 a c2 b5 bs b9 bO o cf;have ch:=e 0 _ rfl;have e2:=e 1 _ rfl;have e3:=e 2 _ rfl;have e4:=e 3 _ rfl;have e5:=e 4 _ rfl;have e6:=e 5 _ rfl;have e7:=e 6 _ rfl;have e8:=e 7 _ rfl;have e9:=e 8 _ rfl;have ea:=e 9 _ rfl;rw[sE]at ch;have bp:x.fields.length=a:=bv.len;have d0:x.rX.length=o:=by have:=d6.len;exact fQ
     have Zh:=rz (show R=if 2500<(x.name.length:Int)\/2500<(a:Int)\/2500<(o:Int)\/2500<(x.sL.length:Int)then PQ (S.drop (j+1)) 2501 else PQ (S.drop (j+1)) (Nr x.fields (N+x.name.length+a+o+x.sL.length+GI x.aliases+GI x.symbols))from by
      rw[a0,ct];simp only[PQ];rw[rG ei,bp,d0];split;·rw[Gt V]
      ·rfl)
     have dj:=rz bp;clear a0 ct e bp d0;go_upto_region 8 with fail;have v:=(afw wo).al rV (nC x b3 br c1 b4 a c2 b5 bs b9 bO o cf);have b7:=wm.new wo x b3 br c1 b4 a c2 b5 bs b9 bO o cf wo.heap.size rfl;have cE:=v.s1;generalize wo.alloc _=d9 at*;clear cb cc ch e2 e3 e4 e5 e6 e7 e8 e9 ea;have adr:=Ac.trans (v.mono Ac.size);have en:=b2.sY rV v;have E:∀b,X b->b<wo.heap.size:=fun b hb=>bC
     have fl:=rz cE;have RC:wo.heap.size<d9.heap.size:=V;clear cE;have dr:=b7;obtain⟨⟨I,a1,a2,a3,a4,L,a6,O,T,a9⟩,U⟩:=dr;by_cases eb:(2500:Int)<(x.name.length:Int)
     ·obtain rfl:R=2501:=by rw[Zh.out,rG (.inl eb)];exact oE
      exact eY
     by_cases ec:(2500:Int)<(a:Int)
     ·obtain rfl:R=2501:=by rw[Zh.out,rG (.inr (.inl ec))];exact oE
      exact eY
     by_cases ed:(2500:Int)<(o:Int)
     ·obtain rfl:R=2501:=by rw[Zh.out,rG (.inr (.inr (.inl ed)))];exact oE
      exact eY
     by_cases ef:(2500:Int)<(x.sL.length:Int)
     ·obtain rfl:R=2501:=by rw[Zh.out,rG (.inr (.inr (.inr ef)))];exact oE
      exact eY
     have c7:=rz (show R=PQ (S.drop (j+1)) (Nr x.fields (N+x.name.length+a+o+x.sL.length+GI x.aliases+GI x.symbols))from by rw[Zh.out,rB V]);clear Zh;have a7:=DT x.aliases;have d8:=DT x.symbols;have e1:=DW x.aliases;have fn:=DW x.symbols;generalize GI x.aliases=D at*;generalize GI x.symbols=c9 at*;go_upto_region 10 with fail;refine sR (K:=Kb (fun b=>b<d9.heap.size)) (Kb.keeps _) (sA.of [0,1,2,3,4,5,6,7,8,9,10,11,12,13,14,15,16,17,18,19,22,23,24,20,21,25,26,27] .nil) [20,25] bm bm bF bm bt (fun wd z tj=> ?_);have Nd:=b7.below z V;have ck:=en.sY rV z;have cW:=(Row.below d4 (v.sY rV z) E);have fb:D9 (Tw wd X) 9 wd X b4 a x.fields:=bv.keep (fun q t=>(v.sY rV z).cell (E _ t)) (fun _ _ _ h=>h.keep fun q t=>(v.sY rV z).cell (E _ t));have cZ:=(Row.below d5 (v.sY rV z) E);have gf:=z.size;clear tj I a1 a2 a3 a4 L a6 O T a9 U d4 bv d5 d6 v b7;have ds:=Nd;obtain⟨⟨I,a1,a2,a3,a4,L,a6,O,T,a9⟩,U⟩:=ds;refine aN ?_;refine se rfl rfl 0 rV (fun b8 r=> ?_);go_wp2_with fail;refine tZ (a7 wd X b3 br c1 cW cy.1.1 cR.1) ?_;go_wp2_with fail;refine r _ _ (fun b hb=>rfl) ?_;clear r;refine aN ?_;refine se rfl rfl 0 rV (fun b8 r=> ?_);go_wp2_with fail;refine tZ (d8 wd X b5 bs b9 cZ cy.2.1 cR.2) ?_;go_wp2_with fail;refine r _ _ (fun b hb=>rfl) ?_;clear r;refine aO ?_;refine sF ?_;clear a7 d8 I a1 a2 a3 a4 L a6 O T a9 U cW cZ z;obtain⟨ad,be⟩:=sW (N+x.name.length+a+o+x.sL.length+D+c9);have eh:0<=ad/\ad<=30000:=V;obtain⟨H,bd⟩:=sW (Nr x.fields ad);have ab:=rz (show R=PQ (S.drop (j+1)) H from by rw[bd,be];exact c7.out);have c4:=rz bd;have c5:=rz be;clear c7 bd be;go_upto_region 11 with fail;rw[wL (N+x.name.length) V,wL (N+x.name.length+a) V,wL (N+x.name.length+a+o) V,wL (N+x.name.length+a+o+x.sL.length) V,wL (N+x.name.length+a+o+x.sL.length+D) V,wL (N+x.name.length+a+o+x.sL.length+D+c9) V,<-c5.out];clear c5;go_wp2_with fail;go_loopw [5,8] (fun bw bz wr=>∃(k:Nat)(M:Int),bz=.int .i64 k/\bw=.int .i64 M/\k<=a/\0<=M/\M<=600000/\H=Nr (x.fields.drop k) M/\Below wd.heap.size wd wr) (fun _ bz _=>a-(intOf bz).toNat);case atStart=>exact⟨0,ad,rfl,rfl,sb _,V,V,c4.out,Below.refl _ _⟩
     case
      round=>
       clear c4 eh;obtain⟨k,M,rfl,rfl,g6,ft,fx,Y,G⟩:=hrel;have cr:=ck.trans (G.mono ck.size);have f6:Below w.heap.size w wr:=sK.trans (cr.mono (zE bn));have gi:=G.size;have dx:=Nd.below G V;obtain⟨⟨I,a1,a2,a3,a4,L,a6,O,T,a9⟩,U⟩:=dx;clear I a1 a2 a4 L a6 O T a9 U;have key:2500<M\/k=a->H=M:=fun h=>
        by
         rcases h with h|h;·rw[Y];exact W5 h
         ·rw[Y,sx (by rw[dj.out];omega)];rfl
       have C:=rz key;clear key;by_cases a5:k<a/\M<=2500
       ·obtain⟨f3,eg⟩:=a5;have g7:(k:Int)<(a:Int):=V;obtain⟨y,F,f,cs,rfl,es,cx,bj,e⟩:=(fb.keep (P':=Tw wr X) (fun q t=>G.cell (by have:=E _ t;omega)) (fun _ _ _ h=>h.keep fun q t=>G.cell (by have:=E _ t;omega))).at_ f3;have cv:x.fields.drop k=f::x.fields.drop (k+1):=by obtain⟨z1,z2⟩:=rQ.1 cx;rw[<-z2];exact rM z1
        clear cx C;cases bj with
        |mk d1 ga f4 f5 gb gc cz=>
         rename_i df fi dz fc f9 fj B m d B' ff e0;have W:=e 0 _ rfl;have af:=e 1 _ rfl;have an:=e 4 _ rfl;have ar:=e 5 _ rfl;have az:=e 6 _ rfl;have aU:=e 7 _ rfl;have b0:=e 8 _ rfl;rw[sE]at W;have a8:=rz (show H=if 2500<(f.name.length:Int)then 2501 else Nr (x.fields.drop (k+1)) (M+f.name.length+GI f.aliases+Gd 61 f.sL)from by rw[Y,cv];simp only[Nr];rw[rG eg]);clear Y cv e;have b1:∀b,X b->b<wr.heap.size:=fun b hb=>by have:=E b hb;omega
         by_cases ci:(2500:Int)<(f.name.length:Int)
         ·obtain rfl:R=2501:=by rw[ab.out,a8.out,rG ci];exact oE
          clear ab a8;go_wp2_with fail;go_ret;exact⟨rfl,f6⟩
         have di:=rz (show H=Nr (x.fields.drop (k+1)) (M+f.name.length+GI f.aliases+Gd 61 f.sL)from by rw[a8.out,rB ci]);clear a8;have a7:=DT f.aliases;have d7:=RH 61 0 rfl f.sL;have e1:=DW f.aliases;have fm:=E5 61 f.sL;generalize GI f.aliases=D at*;generalize Gd 61 f.sL=c8 at*;go_upto_region 16 with fail;refine sR (K:=Kb (fun b=>b<wr.heap.size)) (Kb.keeps _) (sA.of [0,1,2,3,4,5,6,7,8,9,10,11,12,13,14,15,18,19,20,21,22,23,24,16,17,25,26,27] .nil) [16,25] bm bm bF bm bt (fun dd l er=> ?_);have el:=G.sY rV l;have a3:=l.cl a3 V;have i:=b1 y es;have W:=l.cl W i;have af:=l.cl af i;have an:=l.cl an i;have ar:=l.cl ar i;have az:=l.cl az i;have aU:=l.cl aU i;have b0:=l.cl b0 i;have d2:=Row.below d1 l b1;have d3:=cz.keep fun q t=>l.cell (b1 _ t)
         have cS:=l.size;clear er d1 cz l;have f8:wo.heap.size<wr.heap.size:=V;repeat((first|(refine tp rfl rfl rfl bo ?_)|(refine tF rfl rfl rfl ?_)|(refine tA rfl rfl rfl 0 rV _ (by intro w' hb;have y0:=(Kb.cell hb (q:=rN wo.heap.size 3) f8).trans a3;have y1:=(Kb.cell hb (q:=rN y (F+k*9)) i).trans W;have y2:=(Kb.cell hb (q:=rN y (F+k*9+1)) i).trans af;have y3:=(Kb.cell hb (q:=rN y (F+k*9+4)) i).trans an;have y4:=(Kb.cell hb (q:=rN y (F+k*9+5)) i).trans ar;have y5:=(Kb.cell hb (q:=rN y (F+k*9+6)) i).trans az;have gk:=(Kb.cell hb (q:=rN y (F+k*9+7)) i).trans aU;have gl:=(Kb.cell hb (q:=rN y (F+k*9+8)) i).trans b0;clear hb;go_simp;first|done|with_reducible rfl) ?_));simp only[Act.put,rH,rC,rF])
         refine se rfl rfl 0 rV (fun b8 r=> ?_);go_wp2_with fail;refine tZ (a7 dd X df fi dz d2 f4 f5) ?_;go_wp2_with fail;refine r _ _ (fun b hb=>rfl) ?_;clear r;refine aO ?_;refine se rfl rfl 0 rV (fun b8 r=> ?_);go_wp2_with fail;refine sG (d7 dd X fc f9 fj B m d B' ff e0 d3 (fun b hb=>rS (b1 b hb) cS)) fun w' cp=> ?_
         go_wp2_with fail;refine r _ _ (Kb.below (fun b hb=>rS hb cS) cp) ?_;clear r;refine aO ?_;refine sF ?_;clear a7 d7 a3 W af an ar az aU b0 d2 d3;have em:=el.sY rV cp;have et:=wL (M+f.name.length) V;have f0:=wL (M+f.name.length+D) V;have f1:=wL (M+f.name.length+D+c8) V;go_wp2_with fail;refine⟨⟨k+1,M+f.name.length+D+c8,bA,by simp[et,f0,f1],V,V,V,di.out,em⟩,?_⟩;exact bN
       ·have cj:=C.out V;have Nu:(k:Int)<(a:Int)/\¬M<=2500\/¬(k:Int)<(a:Int):=V;have dp:=rz (show R=PQ (S.drop (j+1)) M from by rw[ab.out,cj]);clear ab C a5 Y cj;rcases Nu with⟨ht1,ht2⟩|ht1;all_goals(go_wp2_with fail;refine⟨⟨j+1,M,bA,bA,V,V,V,dp.out,cr⟩,?_⟩;simp[intOf];omega)
   ·have ek:=C.out V;have Nu:(j:Int)<(n:Int)/\¬N<=2500\/¬(j:Int)<(n:Int):=V;subst ek;clear a0 C a5;exact jh
def SG(a:Nat->Int):List Fd->Int->Int
 | [],n=>n
 |f::fs,n=>SG a fs (min (n+a f.type.toNat) 1001)
def tw(S:List Nd):Nat->Nat->Int
 |0,_=>1001
 |d+1,a=>match S[a]? with|none=>0|some x=>SG (tw S d) (Nj x) 1
def Pr{b:Nat->Int}(h:∀a,0<=b a):∀(fs:List Fd)(n:Int),n<=1001->n<=SG b fs n
 | [],n,_=>Cz _
 |f::fs,n,e=>by have d:=h f.type.toNat;have:=Pr h fs (min (n+b f.type.toNat) 1001) V;simp only[SG];omega
def QD(S:List Nd):∀(d a:Nat),0<=tw S d a
 |0,_=>by simp[tw]
 |d+1,a=>
 by
  unfold tw;split;·exact Cz _
  ·have:=Pr (QD S d) (Nj ‹Nd›) 1 V;omega
def Lj{e:Nat->Int}(h:∀a,0<=e a):∀(fs:List Fd)(n:Int),0<=n->n<=1001->SG e fs n<=1000->n<=1000/\∀f∈fs,e f.type.toNat<=1000
 | [],n,_,_,b=>⟨b,bA⟩
 |f::fs,n,j,m,b=>
 by
  have k:=h f.type.toNat;simp only[SG]at b;obtain⟨l,i⟩:=Lj h fs _ V V b;refine⟨V,fun g d=> ?_⟩;rcases sD.1 d with rfl|d;·omega
  ·exact i g d
def VN{a b:Nat->Int}:∀(fs:List Fd)(n:Int),(∀f∈fs,a f.type.toNat=b f.type.toNat)->SG a fs n=SG b fs n
 | [],_,_=>rfl
 |f::fs,n,h=>by simp only[SG];rw[h f bA];exact VN fs _ (fun g d=>h g (by simp[d]))
def Y8(S:List Nd):∀(d a:Nat),tw S d a<=1000->tw S (d+1) a=tw S d a
 |0,_,h=>by simp[tw]at h
 |d+1,a,h=>
 by
  rw[tw]at h|-;conv=>rhs;rw[tw]
  cases e:S[a]? with
  |none=>rfl
  |some x=>rw[e]at h;exact VN _ _ (fun f b=>Y8 S d _ ((Lj (QD S d) _ _ V V h).2 f b))
def VP(S:List Nd)(d a:Nat)(h:tw S d a<=1000):∀k,tw S (d+k) a=tw S d a
 |0=>rfl
 |k+1=>by have:=VP S d a h k;rw[<-Cs,Y8 S _ _ V,this]
def Nb{S:List Nd}{d e a:Nat}(h:tw S d a<=1000)(b:d<=e):tw S e a=tw S d a:=by obtain⟨k,rfl⟩:=Nat.exists_eq_add_of_le b;exact VP S d a h k
def WA(S:List Nd)(kn:List Int):Prop:=∀(j:Nat)(v:Int),kn[j]? =some v->0<v->v<=1000->∃d,tw S d j=v
def WA.set{S:List Nd}{kn:List Int}(h:WA S kn)(a:Nat)(v:Int)(k:0<v->v<=1000->∃d,tw S d a=v):WA S (kn.set a v):=by
 intro j u b g i;rw[uG]at b;split at b
 ·rename_i e;subst e;split at b;·injection b with b;subst b;exact k g i
  ·cases b
 ·exact h j u b g i
def Ws{S:List Nd}{F:Nat}(l:∀a kn,DF kn<F->IZ kn->kn.length=S.length->WA S kn->WA S (z6 S F a kn).2/\((z6 S F a kn).1<=1000->∃d,tw S d a=(z6 S F a kn).1)):∀(fs:List Fd)(n:Int)(kn:List Int),1<=n->n<=1001->DF kn<F->IZ kn->kn.length=S.length->WA S kn->WA S (EN (z6 S F) fs n kn).2/\((EN (z6 S F) fs n kn).1<=1000->∃d,∀e,d<=e->SG (tw S e) fs n=(EN (z6 S F) fs n kn).1)
 | [],n,kn,_,_,_,_,_,b=>⟨b,fun _=>⟨0,fun _ _=>rfl⟩⟩
 |f::fs,n,kn,z,A,k,i,j,b=>by have ok:=FH S F f.type.toNat kn i;obtain⟨p,q⟩:=l f.type.toNat kn k i j b;have y:=ok.lo;obtain⟨r,t⟩:=Ws l fs (min (n+(z6 S F f.type.toNat kn).1) 1001) _ V V (th ok.DF k) ok.Ms (ok.len.trans j) p;refine⟨r,fun h=> ?_⟩;obtain⟨d,m⟩:=t h;simp only[EN]at h|-;have x:=wgL_ge S F fs (min (n+(z6 S F f.type.toNat kn).1) 1001) _ ok.Ms V;obtain⟨g,o⟩:=q V;refine⟨max d g,fun e v=> ?_⟩;simp only[SG];rw[Nb (d:=g) V V,o];exact m e V
where wgL_ge (S:List Nd) (F:Nat):∀(fs:List Fd)(n:Int)(kn:List Int),IZ kn->n<=1001->n<=(EN (z6 S F) fs n kn).1
 | [],n,kn,_,_=>Cz _
 |f::fs,n,kn,hi,hn=>by have ok:=FH S F f.type.toNat kn hi;have hlo:=ok.lo;have:=wgL_ge S F fs (min (n+(z6 S F f.type.toNat kn).1) 1001) _ ok.Ms V;simp only[EN];omega
def aaO(S:List Nd):∀(F a:Nat)(kn:List Int),DF kn<F->IZ kn->kn.length=S.length->WA S kn->WA S (z6 S F a kn).2/\((z6 S F a kn).1<=1000->∃d,tw S d a=(z6 S F a kn).1):=by
 intro F;induction F with
 |zero=>intro a kn h;omega
 |succ F q=>
  intro a kn r m o b;unfold z6;cases e:kn[a]? with
  |none=>
   refine⟨b,fun _=>⟨1,?_⟩⟩;have:S[a]? =none:=by rw[vE]at e|-;omega
   simp[tw,this]
  |some v=>
   cases i:S[a]? with
   |none=>rw[vE]at i;have:=(rQ.1 e).1;omega
   |some x=>
    simp only;split;·exact⟨b,fun h=>ic⟩
    ·split;·exact⟨b,fun h=>b a v e V h⟩
     ·have p:v=0:=V;subst p;have t:=EF e;have n:=m.set a (v:= -1) V V;obtain⟨j,k⟩:=Ws q (Nj x) 1 (kn.set a (-1)) V V V n (by simpa using o) (b.set a _ V);have g:(EN (z6 S F) (Nj x) 1 (kn.set a (-1))).1<=1000->∃d,tw S d a=(EN (z6 S F) (Nj x) 1 (kn.set a (-1))).1:=fun h=>by obtain⟨d,l⟩:=k h;refine⟨d+1,?_⟩;rw[tw,i];exact l d rV
      exact⟨j.set a _ (fun _ h=>g h),g⟩
structure No(S:List Nd)(d:Nat)(kn:List Int):Prop where
 len:kn.length=S.length
 pos:∀(j:Nat)(v:Int),kn[j]? =some v->0<v->∃e,tw S e j=v/\v<=1000
 neg:∀(j:Nat)(v:Int),kn[j]? =some v->v<0->1000<tw S d j
section
variable{S:List Nd}{j:Nat}{v:Int}{d e:Nat}{kn a:List Int}
def Ym{a:Nat}(h:tw S d a<=1000)(g:tw S e a<=1000):tw S d a=tw S e a:=by
 rcases Nat.le_total d e with b|b;·exact(Nb h b).symm
 ·exact Nb g b
def No.down(h:No S e kn)(b:d<=e):No S d kn:=⟨h.len,h.pos,fun j v g i=>by have:=h.neg j v g i;apply Int.lt_of_not_ge;intro a;rw[Nb a b]at this;omega⟩
def No.set(h:No S d kn)(a:Nat)(v:Int)(i:0<v->∃e,tw S e a=v/\v<=1000)(k:v<0->1000<tw S d a):No S d (kn.set a v):=by
 refine⟨jM,fun j u b g=> ?_,fun j u b g=> ?_⟩;all_goals
  rw[uG]at b;split at b
  ·rename_i e;subst e;split at b;·injection b with b;subst b;first|exact i g|exact k g
   ·cases b
  ·first|exact h.pos j u b g|exact h.neg j u b g
def Ts(kn a:List Int):Prop:=∀(j:Nat)(v:Int),a[j]? =some v->v<0->kn[j]? =some v
def No.U8(h:No S d kn)(b:No S e a)(k:Ts kn a):No S d a:=⟨b.len,b.pos,fun j v i g=>h.neg j v (k j v i g) g⟩
def Wq{S:List Nd}{F d:Nat}(m:∀a kn,tw S d a<=1000->DF kn<F->IZ kn->No S d kn->(z6 S F a kn).1=tw S d a/\No S d (z6 S F a kn).2/\Ts kn (z6 S F a kn).2):∀(fs:List Fd)(n:Int)(kn:List Int),(∀f∈fs,tw S d f.type.toNat<=1000)->DF kn<F->IZ kn->No S d kn->(EN (z6 S F) fs n kn).1=SG (tw S d) fs n/\No S d (EN (z6 S F) fs n kn).2/\Ts kn (EN (z6 S F) fs n kn).2
 | [],n,kn,_,_,_,b=>⟨rfl,b,fun _ _ h _=>h⟩
 |f::fs,n,kn,e,l,i,b=>by have ok:=FH S F f.type.toNat kn i;obtain⟨o,p,q⟩:=m f.type.toNat kn (e f bA) l i b;obtain⟨x,y,z⟩:=Wq m fs (min (n+(z6 S F f.type.toNat kn).1) 1001) _ (fun g r=>e g (by simp[r])) (th ok.DF l) ok.Ms p;refine⟨?_,y,fun j v t k=>q j v (z j v t k) k⟩;simp only[EN,SG];rw[x,o]
def aaN(S:List Nd):∀(d F a:Nat)(kn:List Int),tw S d a<=1000->DF kn<F->IZ kn->No S d kn->(z6 S F a kn).1=tw S d a/\No S d (z6 S F a kn).2/\Ts kn (z6 S F a kn).2:=by
 intro d;induction d with
 |zero=>intro F a kn h;simp[tw]at h
 |succ d A=>
  intro F a kn z H t b;by_cases r:tw S d a<=1000;·obtain⟨l,m,k⟩:=A F a kn r H t (b.down V);exact⟨l.trans (Nb r V).symm,b.U8 m k,k⟩
  ·obtain⟨F,rfl⟩:∃f,F=f+1:=⟨F-1,V⟩;unfold z6;cases i:kn[a]? with
   |none=>
    have:S[a]? =none:=by rw[vE]at i|-;have:=b.len;omega
    refine⟨?_,b,fun _ _ h _=>h⟩;simp[tw,this]
   |some v=>
    cases p:S[a]? with
    |none=>rw[vE]at p;have:=(rQ.1 i).1;have:=b.len;omega
    |some x=>
     simp only;split;·rename_i E;have:=b.neg a v i E;omega
     ·split;·rename_i n;obtain⟨e,B,K⟩:=b.pos a v i n;exact⟨by rw[<-B];exact Ym V z,b,fun _ _ h _=>h⟩
      ·have G:v=0:=V;subst G;have L:=EF i;have C:=t.set a (v:= -1) V V;have o:=z;rw[tw,p]at o;simp only at o;have D:=(Lj (QD S d) _ _ V V o).2;obtain⟨l,m,k⟩:=Wq (fun a kn=>A F a kn) (Nj x) 1 (kn.set a (-1)) D V C ((b.down V).set a (-1) V (by intro _;omega));have q:(EN (z6 S F) (Nj x) 1 (kn.set a (-1))).1=tw S (d+1) a:=by rw[l,tw,p]
       have I:=Pr (QD S d) (Nj x) 1 V;have y:Ts kn ((EN (z6 S F) (Nj x) 1 (kn.set a (-1))).2.set a (EN (z6 S F) (Nj x) 1 (kn.set a (-1))).1):=by
        intro j u g n;rw[uG]at g;split at g
        ·split at g;·injection g with g;omega
         ·cases g
        ·rename_i e;have:=k j u g n;rw[List.getElem?_set_ne e]at this;exact this
       refine⟨q,b.U8 (m.set a _ (fun _=>⟨d+1,q.symm,V⟩) (by intro h;omega)) y,y⟩
def JE{S:List Nd}:∀(l:List Nd)(i:Nat)(kn:List Int)(b:List afs),zx S i l kn b=true->DF kn<S.length+1->IZ kn->kn.length=S.length->WA S kn->∀j,i<=j->j<i+l.length->∃d,tw S d j<=1000
 | [],i,kn,b,_,_,_,_,_=>by simp;omega
 |x::r,i,kn,b,h,k,e,g,p=>
 by
  simp only[zx,rO,sd]at h;obtain⟨m,n⟩:=aaO S (S.length+1) i kn k e g p;have ok:=FH S (S.length+1) i kn e;intro j a o;rcases Nat.eq_or_lt_of_le a with rfl|a;·obtain⟨d,q⟩:=n h.2.1;exact⟨d,V⟩
  ·exact JE r (i+1) _ _ h.2.2 (th ok.DF k) ok.Ms (ok.len.trans g) m j a (by simp at o;omega)
def kn0(S:List Nd):DF (List.replicate S.length 0)<S.length+1/\IZ (List.replicate S.length 0)/\(List.replicate S.length (0:Int)).length=S.length:=by refine⟨by simp[DF],fun v a=> ?_,bA⟩;have:=(NG.1 a).2;omega
def OG(h:(List.replicate S.length (0:Int))[j]? =some v):v=0:=(NG.1 (rU h)).2
def Sl(h:ur S 0=true):PM S 0 S.length=0:=by
 unfold ur at h;rw[rO]at h;obtain⟨g,k,l⟩:=kn0 S;have n:=JE S 0 _ _ h.2 g k l (fun j v a b=>by have:=OG a;omega);suffices hs:∀i,i<=S.length->PM S 0 i=0 from hs _ rV
 intro i;induction i with
 |zero=>intro _;rfl
 |succ i o=>
  intro p;obtain⟨d,e⟩:=n i V V;have m:=(aaN S d (S.length+1) i _ e g k ⟨l,fun j v a b=>by have:=OG a;omega,fun j v a b=>by have:=OG a;omega⟩).1;simp only[PM,o V];have:Ai S 0 i<=1000:=by
   unfold Ai;split;·rw[su,m];exact e
   ·omega
  rw[show decide (1000<Ai S 0 i)=false from rI V];simp[sM]
end
