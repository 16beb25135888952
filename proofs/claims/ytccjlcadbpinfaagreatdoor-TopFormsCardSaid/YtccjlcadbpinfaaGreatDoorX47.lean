import Derived.Test.YtccjlcadbpinfaaGreatDoorX46
set_option linter.all false
set_option maxRecDepth 100000
set_option maxHeartbeats 16000000
namespace Go.Proofs.YtccjlcadbpinfaaGreatDoor.Tp
open ChangeShapes WideShapes ChangeAt RowKit
open Num Mem Can
open Wr
abbrev fdx(f:Fd)(a:acN)(h e:Nat)(k i:Int)(t:ByteArray)(B:acN)(m d:Nat)(B':acN)(g b:Nat):Go.Obj:=fC f a h e k i t B m d B' g b
def Pj{a:rp->acM}:∀(ks:List acM)(l:List rp)(i:Nat)(z:acM),(AV a ks l)[i]? =some z->∃k y,ks[i]? =some k/\l[i]? =some y/\z=Po k++a y
 | [],_,i,z,h=>by simp[AV]at h
 |_::_,[],i,z,h=>by simp[AV]at h
 |k::r,y::l,i,z,h=>
 by
  cases i with
  |zero=>simp[AV]at h;exact⟨k,y,rfl,rfl,h.symm⟩
  |succ i=>simpa using Pj r l i z (by simpa[AV]using h)
def IX{a:rp->acM}:∀(ks:List acM)(l:List rp),ks.length=l.length->(AV a ks l).length=l.length
 | [],[],_=>rfl
 |k::r,y::l,h=>by simp only[AV,rM,IX r l dC]
def Q3{a:Nat->rp->acM}{f:Fd}{r:List Fd}{v:rp}{l:List rp}:Hs a (f::r) (v::l)=a f.type.toNat v++Hs a r l:=rfl
def TZ{a:Nat->rp->acM}{l:List rp}:Hs a [] l=[]:=by simp[Hs]
def SQ(S:List Nd)(k5:∀x∈S,∀k∈ti x,0<=k/\k<(S.length:Int))(n5:S.length<=100000000):∀f,Xi S f:=by
 intro f;induction f with
 |zero=>intro a v h;cases h
 |succ f T=>
  intro a v hlv o mr w X A n c e e2 fi hf k i b ar a7 c5 aU G b2 b7 ad c6 l3 D B m d xs a2 bs k6 bx e0;obtain⟨⟨rfl,rfl,rfl⟩,XN,⟨css,hit,dB,hp⟩,WZ, -, -,hq,ms⟩:=l3.inv;obtain⟨lb,ny,o0,lc,e6⟩:v.bytes.length<=2500/\v.items.length<=2500/\v.keys.length<=2500/\(∀k∈v.keys,k.length<=2500)/\∀y∈v.items,PN f y:=km;have hg:S.length=n:=e2.len;have hs:v.bytes.length=a7:=iL;have ht:v.items.length=G:=gR;have hu:v.keys.length=ad:=oF;have a5:∀q,X q->q<w.heap.size:=fun q N=>by have:=a2 q N;omega
  obtain⟨ea,o3,x,cS,e8,c1,d0,bO,c2,d1,e9,d7,b5,c3,c4,rfl,N,e4,⟨h1,h2,h3,h4,h5,h6,h7,h8,h9,ha⟩,⟨li,hO,lk,hQ⟩, -,hn1,n6,n8,n9⟩:=uW e2 (show a<n from V);have l4:x∈S:=rL e4;have dN:=k5 x l4;have mp:(a:Int)<(n:Int):=V;have l1:=a5 ea N;obtain⟨a1,l⟩:∃a1,a1=xb S (f+1) a v:=⟨_,rfl⟩;rw[<-l]at e0|-;rw[xb,e4]at l;simp only at l;unfold wQ at o;rw[e4]at o;dsimp only at o;obtain⟨bad,hk⟩:∃b,b=(!decide (v.kind=x.kind)||(!Gz v||decide (20000<v.bytes.length))):=⟨_,rfl⟩;rw[<-hk]at o;have hj:bad=false:=by
   cases bad with
   |true=>rw[rv rfl]at o;cases o
   |false=>rfl
  rw[hj,ru bD]at o;clear hj hk;have hA:∀L,B=some L->D<=L.block/\L.block<w.heap.size:=fun L h=>bx.block L h
  have Fh:∀q,w.heap.size<=q->B.map (·.block)≠some q:=fun q N h=>
   by
    cases B with
    |none=>cases h
    |some L=>have:=(hA L rfl).2;exact eM
  have cs:∀q,q<D->B.map (·.block)≠some q:=fun q N h=>
   by
    cases B with
    |none=>cases h
    |some L=>have:=(hA L rfl).1;exact eM
  have HL:=rq (And.intro hs (And.intro ht hu));have vL:=rq l;have I:=rq o;have ml:=rq hg;have n4:m<=900000:=V;have n2:a7<=2500:=V;have hw:G<=2500:=V;have n3:ad<=2500:=V;clear l e4 o hs ht hu hg;have dp:=((acQ w).al rT (.cells #[.pointer (some ⟨e,0,none⟩)] 152)).alloc bi (vo v.kind v.int v.bits ar a7 c5 aU G b2 b7 ad c6);have f1:=(Bx.new w #[.pointer (some ⟨e,0,none⟩)] 152 w.heap.size rfl).below (vK.al rT (vo v.kind v.int v.bits ar a7 c5 aU G b2 b7 ad c6)) bi;have gx:Bx ((w.alloc (.cells #[.pointer (some ⟨e,0,none⟩)] 152)).alloc (vo v.kind v.int v.bits ar a7 c5 aU G b2 b7 ad c6)) (w.heap.size+1) _:=Bx.new (w.alloc (.cells #[.pointer (some ⟨e,0,none⟩)] 152)) _ _ _ bi;have hB:((w.alloc (.cells #[.pointer (some ⟨e,0,none⟩)] 152)).alloc (vo v.kind v.int v.bits ar a7 c5 aU G b2 b7 ad c6)).heap.size=w.heap.size+2:=bi;go_enter Tryz.func74,Tryz.ntmps74;go_upto_region 1 with fail;generalize(w.alloc (.cells #[.pointer (some ⟨e,0,none⟩)] 152)).alloc (vo v.kind v.int v.bits ar a7 c5 aU G b2 b7 ad c6)=w1 at*;have mf:=rq hB;have nf:w.heap.size+2<=w1.heap.size:=V;have Z:∀q,w1.cell? ⟨ea,q,none⟩=w.cell? ⟨ea,q,none⟩:=fun q=>dp.cell (p:=⟨ea,q,none⟩) l1
  have i7:=(Z _).trans h1;have i8:=(Z _).trans h2;have i9:=(Z _).trans h3;have id:=(Z _).trans h4;have ih:=(Z _).trans h5;have ii:=(Z _).trans h6;have ip:=(Z _).trans h7;have ir:=(Z _).trans h8;have it:=(Z _).trans h9;have iv:=(Z _).trans ha;have s0:=f1.c 0 _ rfl;have s1:=(dp.cell (p:=⟨e,0,none⟩) bd).trans fi;clear h1 h2 h3 h4 h5 h6 h7 h8 h9 ha Z hB;have cb:=(acQ w1).al rT (W9 x cS e8 c1 d0 bO c2 d1 e9 d7 b5 c3 c4);have gr:Bx (w1.alloc (W9 x cS e8 c1 d0 bO c2 d1 e9 d7 b5 c3 c4)) w1.heap.size _:=Bx.new w1 _ _ _ rfl;have nm:w1.heap.size<(w1.alloc (W9 x cS e8 c1 d0 bO c2 d1 e9 d7 b5 c3 c4)).heap.size:=bi;go_upto_region 2 with fail;generalize w1.alloc (W9 x cS e8 c1 d0 bO c2 d1 e9 d7 b5 c3 c4)=r at*;have f2:=f1.below cb V;have gz:=gx.below cb V;have U:=dp.sV V cb;have nx:=cb.size;clear i7 i8 i9 id ih ii ip ir it iv s0 s1 f1 gx dp cb;have a0:=bx.below U;have e3:=e2.below U a5;have dI:=Row.below hit U a5;have dz:=fun i h f8=>(hp i h f8).stay U a5
  have kn:=Row.below WZ U a5;have fl:=Kg (Row.below XN U a5) (B:=D) a2;have hP:=hO.keep (w':=r) (Y:=X) (fun q N=>U.cell (a5 _ N)) (fun _ h=>h);have hR:=Row.below hQ U a5;have d5:=(U.cell (p:=⟨e,0,none⟩) bd).trans fi;have b6:=(U.cell (p:=⟨e,2,none⟩) bd).trans hf;have bp:∀b,X b->b<r.heap.size:=fun b hb=>by have:=a5 b hb;omega
  clear hit hp WZ XN e2 li hO lk hQ fi hf;obtain⟨hS,er,hU,hV,cx,gf, -⟩:=gz.xa;obtain⟨W,hF,hG,hH,hI,hJ,hK,hL,e7,g8, -⟩:=gr.yk;have s0:=f2.c 0 _ rfl;have GX:xm B w B r:=xm.of U;have BX:Below D w r:=U.mono k6;by_cases b0:x.kind=2;·have l:=vL.out;rw[rv b0]at l;have vL:=rq l;clear l;rw[b0]at W;obtain rfl:a1=[tb v.int]:=vL.out;clear vL I T b0;have yr:=Q0 B m d D v.int xs r a0 V V;exact cL
  have a8:(x.kind==2)=false:=rr.2 V;by_cases hd:x.kind=3\/x.kind=4\/x.kind=10;·have l:=vL.out;rw[ru V,rv hd]at l;have vL:=rq l;clear l;rcases hd with ab|ab|ab;all_goals rw[ab]at W;obtain rfl:a1=Er v.int:=vL.out;clear vL I T ab a8;have yr:=HW v.int hq.1 hq.2 B m d xs D r a0 V V;go_wp2_with fail;refine yr.mono ?_;rintro e' w4 ⟨C4,c4,rfl,D1,DV,MI⟩;clear yr;go_wp2_with fail;go_ret;exact⟨C4,c4,rfl,D1,BX.trans DV,GX.trans MI⟩
  have ak:(x.kind==3)=false:=rr.2 V;have an:(x.kind==4)=false:=rr.2 V;have af:(x.kind==10)=false:=rr.2 V;by_cases fb:x.kind=5;·have l:=vL.out;rw[ru V,ru V,rv fb]at l;have vL:=rq l;clear l;rw[fb]at W;obtain rfl:a1=Pc v.bits 4:=vL.out;clear vL I T fb a8 ak an af;have yr:=I9 B m d D v.bits 4 V xs r a0 V V V;rw[show m+(Pc v.bits 4).length=m+4 by rw[JX]];exact cL
  have b4:(x.kind==5)=false:=rr.2 V;by_cases ff:x.kind=6;·have l:=vL.out;rw[ru V,ru V,ru V,rv ff]at l;have vL:=rq l;clear l;rw[ff]at W;obtain rfl:a1=Pc v.bits 8:=vL.out;clear vL I T ff a8 ak an af b4;have yr:=I9 B m d D v.bits 8 V xs r a0 V V V;rw[show m+(Pc v.bits 8).length=m+8 by rw[JX]];exact cL
  have c7:(x.kind==6)=false:=rr.2 V;by_cases he:x.kind=7\/x.kind=8
  ·have l:=vL.out;rw[ru V,ru V,ru V,ru V,rv he]at l;have vL:=rq l;clear l;rcases he with ab|ab;all_goals
    rw[ab]at W;obtain rfl:a1=Po v.bytes:=vL.out;clear vL I T ab a8 ak an af b4 c7;have kt:0<a7->∀L,ar=some L->B.map (·.block)≠some L.block:=fun l0 L k2=>by obtain⟨g,o1,dk,bv, -⟩:=fl.2 l0;rw[k2]at dk;injection dk with dk;subst dk;exact cs g bv
    have yr:=Hp B ar m d a7 c5 D D xs v.bytes r a0 V fl V kt V V;go_wp2_with fail;refine yr.mono ?_;rintro e' w4 ⟨C4,c4,rfl,D1,DV,MI⟩;clear yr;go_wp2_with fail;go_ret;exact⟨C4,c4,rfl,D1,BX.trans DV,GX.trans MI⟩
  have cy:(x.kind==7)=false:=rr.2 V;have cz:(x.kind==8)=false:=rr.2 V;by_cases f9:x.kind=14;·have l:=vL.out;rw[ru V,ru V,ru V,ru V,ru V,rv f9]at l;have vL:=rq l;clear l;rw[f9]at W;obtain rfl:a1=v.bytes:=vL.out;clear vL I T f9 a8 ak an af b4 c7 cy cz;rw[HL.out.1]at e0;go_wp2_with(at_builtin;refine sS rfl rfl a0 rfl fl V V ?_;intro b5 c4 w4 D1 DV MI);go_ret;exact⟨b5,c4,by rw[HL.out.1];rfl,by rw[HL.out.1];exact D1,BX.trans DV,GX.trans MI⟩
  have et:(x.kind==14)=false:=rr.2 V;by_cases cj:x.kind=9
  ·have l:=vL.out;rw[ru V,ru V,ru V,ru V,ru V,ru V,rv cj]at l;have vL:=rq l;clear l;rw[cj]at W;have o:=I.out;rw[ru V,ru V,ru V,ru V,ru V,ru V,rv cj,rG,rQ]at o;obtain⟨ks,ds⟩:=o;unfold Ag at ds;rw[rG]at ds;have a3:=DQ v.items 0 ds.1;have hn:x.fields.length=bO:=hP.len;have bz:G=bO:=by have:=HL.out.2.1;omega
   have go:=rq hn;have hY:=rq a3;have i0:=rq cj;subst bz;clear I ks ds a3 hn cj a8 ak an af b4 c7 cy cz et;go_upto_region 20 with fail;go_wp2_with fail;go_loopw [1,66] (fun s1 gd wr=>∃(j:Nat)(C:acN)(q:Nat)(a9:acM),gd=.int .i64 j/\j<=G/\s1=.slice C a9.length q/\Mem.Own wr D C a9.length q a9/\a9++Hs (xb S f) (x.fields.drop j) (v.items.drop j)=xs++a1/\Below D w wr/\xm B r C wr) (fun _ gd _=>G-(intOf gd).toNat);case atStart=>exact⟨0,B,d,xs,rfl,rO _,by rw[bx.len],by rw[bx.len];exact a0,kH,BX,xm.refl _ _⟩
   case
    round=>
     obtain⟨j,C,q,a9,rfl,n1,rfl,e1,F,br,cp⟩:=hrel;have d6:=rq F;clear F;have nr:=cp.size;have RE:∀b,b<r.heap.size->(b<D\/w.heap.size<=b)->wr.heap[b]? =r.heap[b]?:=fun b cc b0=>cp.block b cc (by rcases b0 with h|h;exact cs b h;exact Fh b h)
     by_cases Ar:j<G
     ·have kc:(j:Int)<(G:Int):=V;have cr:∀q:Addr,X q.block->wr.cell? q=r.cell? q:=fun q N=>rD (w:=r) (RE _ (bp _ N) (.inl (a2 _ N)))
      have lj:=hP.keep (w':=wr) (Y:=X) cr (fun _ h=>h);obtain⟨k1,o2,y,d4,ef,el,a6,e5,ek,d2,eg,em,d3,ei,en,rfl,kb,R,⟨iz,j1,j2,j3,j4,ji,jj,jk,k0⟩, -, -, -, -⟩:=yY lj Ar;obtain⟨g,p,z,g4,g3,f6,f3,g5,g9,f4,g6,gb,f5,g7,gc,rfl,bv,OZ,g0,b8,b9,be,bj,bk,bn⟩:=CK (dI.keep cr (fun _ h=>h)) dB (fun i h f8=>(dz i h f8).keep cr (fun _ h=>h)) Ar;have mt:=bp k1 kb;have n0:=bp g bv;have dK:j<x.fields.length:=by rw[go.out];exact Ar
      have dM:j<v.items.length:=ky;have g1:x.fields[j]=y:=by rw[ry dK]at R;injection R
      have g2:v.items[j]=z:=by rw[ry dM]at OZ;injection OZ
      have ho:Nw x j=y.type:=by unfold Nw;rw[R]
      have dr:=hY.out j z OZ;rw[sY,ho]at dr;have fn:=e6 z (g2▸rY dM);have nn:0<=y.type/\y.type<(S.length:Int):=dN _ (by unfold ti;rw[rv i0.out];exact sR.2 ⟨y,g1▸rY dK,rfl⟩);obtain⟨u,H⟩:∃u:Nat,y.type=(u:Int):=⟨y.type.toNat,V⟩;have F:=d6.out;rw[rH dK,rH dM,g1,g2,Q3,H,rW,<-rX]at F;rw[H,rW]at dr;have ct:=vy List.length F;simp only[rC,bx.len]at ct;have kr:a9.length+(xb S f u z).length<=900000:=V;have i2:=rq F;have b1:u<S.length:=V;have gA:=(acQ wr).al rT (fdx y d4 ef el a6 e5 ek d2 eg em d3 ei en);have hX:Bx (wr.alloc (fdx y d4 ef el a6 e5 ek d2 eg em d3 ei en)) wr.heap.size _:=Bx.new wr _ _ _ rfl;have l2:wr.heap.size<(wr.alloc (fdx y d4 ef el a6 e5 ek d2 eg em d3 ei en)).heap.size:=bi;have ln:=f2.zw (RE _ V (.inr V));have i3:=gz.zw (RE _ V (.inr V));have lh:=(gr.zw (RE _ V (.inr V))).c 3 _ rfl;have i1:=rq H;clear F d6 ct H g1 g2 ho R OZ dK dM hS er hU hV cx gf W hF hG hH hI hJ hK hL e7 g8 s0;go_upto_region 22 with fail;generalize wr.alloc (fdx y d4 ef el a6 e5 ek d2 eg em d3 ei en)=w4 at*;clear iz j1 j2 j3 j4 ji jj jk k0 lh;have hC:=gA.size;refine td (K:=Kb (fun b=>b=w.heap.size\/b=w.heap.size+1\/b=wr.heap.size\/b=g)) (Kb.keeps _) (sk.of [0,1,2,3,4,5,6,7,8,9,10] .nil) [9] bg bg bC bg (fun _ _ d _ _ h=>bw) (fun wd E sW=> ?_);have M:=gA.sV rT E;have l5:=E.size;have eb:=(ln.below M V).c 0 _ rfl;have es:=(i3.below M V).c 4 _ rfl;have hc:=(hX.below E l2).c 2 _ rfl;rw[i1.out]at hc;have d8:=(M.cell (p:=⟨g,p+j*6,none⟩) bd).trans b8;have d9:=(M.cell (p:=⟨g,p+j*6+1,none⟩) bd).trans b9;have dd:=(M.cell (p:=⟨g,p+j*6+2,none⟩) bd).trans be;have df:=(M.cell (p:=⟨g,p+j*6+3,none⟩) bd).trans bj;have di:=(M.cell (p:=⟨g,p+j*6+4,none⟩) bd).trans bk;have dj:=(M.cell (p:=⟨g,p+j*6+5,none⟩) bd).trans bn;have hi:∀b,X b->b<wr.heap.size:=fun b hb=>by have:=bp b hb;omega
      have gl:=(M.cell (p:=⟨e,0,none⟩) bd).trans ((rD (w:=r) (a:=⟨e,0,none⟩) (RE e V (.inl bs))).trans d5);have gn:=(M.cell (p:=⟨e,2,none⟩) bd).trans ((rD (w:=r) (a:=⟨e,2,none⟩) (RE e V (.inl bs))).trans b6);have yr:=T u z fn dr b1 wd X _ n c e ((e3.keep cr (fun _ h=>h)).below M hi) gl gn g4 g3 f6 f3 g5 g9 f4 g6 gb f5 g7 gc (g0.stay M hi) D C a9.length q a9 a2 bs V (e1.below M) kr;generalize xb S f u z=zs at*;clear b8 b9 be bj bk bn gl gn dr cr;have a4:∀b,(b=w.heap.size\/b=w.heap.size+1\/b=wr.heap.size\/b=g)->b<wd.heap.size/\C.map (·.block)≠some b:=fun b hb=>
       by
        have fm:=a2 g bv;have hn1:∀b,b<r.heap.size->B.map (·.block)≠some b->C.map (·.block)≠some b:=fun b cc b0=>cp.ne cc b0
        have kv:C.map (·.block)≠some wr.heap.size:=fun h=>
         by
          cases C with
          |none=>cases h
          |some L=>have:=(e1.block L rfl).2;exact eM
        rcases hb with rfl|rfl|rfl|rfl;·exact ox
        ·exact ox
        ·exact⟨V,kv⟩
        ·exact⟨V,hn1 _ V (cs _ fm)⟩
      repeat((first|(refine ua rfl rfl rfl bh ?_)|(refine uq rfl rfl rfl ?_)|(refine uk rfl rfl rfl 0 rT _ (by intro w' hb;have m1:=(Kb.cell hb (q:=⟨w.heap.size,0,none⟩) (by simp)).trans eb;have m2:=(Kb.cell hb (q:=⟨w.heap.size+1,4,none⟩) (by simp)).trans es;have m3:=(Kb.cell hb (q:=⟨wr.heap.size,2,none⟩) (by simp)).trans hc;have m4:=(Kb.cell hb (q:=⟨g,p+j*6,none⟩) (by simp)).trans d8;have m5:=(Kb.cell hb (q:=⟨g,p+j*6+1,none⟩) (by simp)).trans d9;have m6:=(Kb.cell hb (q:=⟨g,p+j*6+2,none⟩) (by simp)).trans dd;have m7:=(Kb.cell hb (q:=⟨g,p+j*6+3,none⟩) (by simp)).trans df;have m8:=(Kb.cell hb (q:=⟨g,p+j*6+4,none⟩) (by simp)).trans di;have m9:=(Kb.cell hb (q:=⟨g,p+j*6+5,none⟩) (by simp)).trans dj;clear hb;go_simp;first|done|with_reducible rfl) ?_));simp only[Act.put,rB,rz,rA])
      refine rZ rfl rfl 0 rT (fun gs aa=> ?_);go_wp2_with fail;refine yr.mono ?_;rintro e' ls ⟨f0,f7,rfl,fs,fj,cl⟩;clear yr;go_wp2_with fail;refine aa _ _ (fun b hb=>cl.block b (a4 b hb).1 (a4 b hb).2) ?_;clear aa a4;refine aQ ?_;refine sI ?_;have ka:=(cp.trans (xm.of M)).trans cl;have k7:=(br.trans (M.mono V)).trans fj;go_wp2_with fail;refine⟨⟨j+1,f0,f7,a9++zs,bi,V,by rw[rC],by rw[rC];exact fs,i2.out,k7,ka⟩,?_⟩;exact bK
     ·obtain rfl:j=G:=V;have kc:¬(j:Int)<(j:Int):=V;have F:=d6.out;rw[so (by rw[go.out];omega),TZ,sw]at F;have ct:=vy List.length F;simp only[rC,bx.len]at ct;subst F;rw[ct]at e1;clear d6;go_wp2_with fail;go_ret;exact⟨C,q,rfl,e1,br,GX.trans cp⟩
  have gi:(x.kind==9)=false:=rr.2 V;by_cases cf:x.kind=11
  ·have l:=vL.out;rw[ru V,ru V,ru V,ru V,ru V,ru V,ru V,rv cf]at l;have vL:=rq l;clear l;rw[cf]at W;have o:=I.out;rw[ru V,ru V,ru V,ru V,ru V,ru V,ru V,ru V,rv cf]at o;have kz:0<=x.items/\x.items<(S.length:Int):=dN _ (by unfold ti;simp[cf]);unfold Ag at o;rw[rG]at o;have a3:=DQ v.items 0 o.1;obtain⟨u,H⟩:∃u:Nat,x.items=(u:Int):=⟨x.items.toNat,V⟩;have b1:u<S.length:=V;have l:=vL.out;simp only[H,rW]at l a3;have RE:=GF 137 (enters_of Tryz.func137 bg rfl) #[.pointer (some ⟨w.heap.size,0,none⟩),.pointer (some ⟨w1.heap.size,0,none⟩),.pointer (some ⟨w.heap.size+1,0,none⟩)] (v.items.map (xb S f u)) G (by rw[sD];exact HL.out.2.1) hw r e D B m d xs a0 V (by have cc:(GD (v.items.map (xb S f u))).length>=((v.items.map (xb S f u)).flatten).length:=nh;rw[l]at e0;omega) b6 V (fun i y R=>
    by
     rw[tz]at R;cases O:v.items[i]? with
     |none=>rw[O]at R;cases R
     |some z=>rw[O]at R;injection R with R;rw[<-R];exact TT S f T x v e6 u H b1 i z O (a3 i z O) r X _ n c e w.heap.size w1.heap.size (w.heap.size+1) e3 d5 b6 aU G b2 css dI dB dz bp V s0 e7 cx V V V)
   rw[<-l]at RE;clear vL I T o a3 l H cf a8 ak an af b4 c7 cy cz et gi;exact nw
  have hW:(x.kind==11)=false:=rr.2 V;by_cases ch:x.kind=12;·have l:=vL.out;rw[ru V,ru V,ru V,ru V,ru V,ru V,ru V,ru V,rv ch]at l;have vL:=rq l;clear l;rw[ch]at W;have o:=I.out;rw[ru V,ru V,ru V,ru V,ru V,ru V,ru V,rv ch,rG,rG,rQ]at o;have kz:0<=x.items/\x.items<(S.length:Int):=dN _ (by unfold ti;simp[ch]);obtain⟨⟨kd, -⟩,o⟩:=o;unfold Ag at o;rw[rG]at o;have a3:=DQ v.items 0 o.1;obtain⟨u,H⟩:∃u:Nat,x.items=(u:Int):=⟨x.items.toNat,V⟩;have b1:u<S.length:=V;have l:=vL.out;simp only[H,rW]at l a3;have RE:=GF 138 (enters_of Tryz.func138 bg rfl) #[.pointer (some ⟨w.heap.size,0,none⟩),.pointer (some ⟨w.heap.size+1,0,none⟩),.pointer (some ⟨w1.heap.size,0,none⟩)] (AV (xb S f u) v.keys v.items) G (by rw[IX _ _ kd];exact HL.out.2.1) hw r e D B m d xs a0 V (by have cc:(GD (AV (xb S f u) v.keys v.items)).length>=((AV (xb S f u) v.keys v.items).flatten).length:=nh;rw[l]at e0;omega) b6 V (fun i y R=>by obtain⟨hE,z,hr,O,rfl⟩:=Pj _ _ _ _ R;exact TU S f T x v e6 u H b1 i z O (a3 i z O) r X _ n c e w.heap.size w1.heap.size (w.heap.size+1) e3 d5 b6 aU G b2 css dI dB dz bp V b7 ad c6 kn hE hr (lc hE (rL hr)) gf s0 e7 cx V V V);rw[<-l]at RE;clear vL I T o a3 l H ch a8 ak an af b4 c7 cy cz et gi hW;exact nw
  have m0:(x.kind==12)=false:=rr.2 V;by_cases ci:x.kind=13
  ·have l:=vL.out;rw[ru V,ru V,ru V,ru V,ru V,ru V,ru V,ru V,ru V,rv ci]at l;have vL:=rq l;clear l;rw[ci]at W;have o:=I.out;rw[ru V,ru V,ru V,ru V,ru V,ru V,ru V,ru V,ru V,rv ci,rG,rG,rG,rQ,rQ,rQ]at o;obtain⟨i4,i5,i6,o⟩:=o;have k9:x.rR.length=c3:=by have:=hR.len;exact eJ
   have bz:G=1:=by have:=HL.out.2.1;omega
   obtain⟨q,N⟩:∃q:Nat,v.int=(q:Int):=⟨v.int.toNat,V⟩;have ZF:q<x.rR.length:=V;obtain⟨g,p,z,g4,g3,f6,f3,g5,g9,f4,g6,gb,f5,g7,gc,rfl,bv,OZ,g0,b8,b9,be,bj,bk,bn⟩:=CK dI dB dz (show 0<G from V);obtain⟨c8,hN,rfl,k3,hm⟩:=hR.pos V;obtain⟨ac,WX⟩:∃ac,ac=x.rR[q]:=⟨_,rfl⟩;have a6:=(hm q [.int .i64 ac] iB).2 0 _ rfl;rw[tv,si]at a6;have br:WV x q=ac:=jS;have kk:0<=ac/\ac<(S.length:Int):=dN _ (by unfold ti;rw[ru V,ru V,rv ci,WX];exact rY ZF);obtain⟨u,H⟩:∃u:Nat,ac=(u:Int):=⟨ac.toNat,V⟩;have O:∃t,v.items=z::t:=eS;obtain⟨t,O⟩:=O;have fn:=e6 z (by rw[O];simp);rw[O,N,rW,br,H,rW]at o;have l:=vL.out;rw[O,N,rW,br,H,rW]at l;dsimp only at l o;have b1:u<S.length:=V;have fm:=a2 g bv;have k4:=a2 c8 k3;have hy:=fun b3(F:Below r.heap.size r b3)=>HW (q:Int) V V B m d xs D b3 (a0.below F) (by have:=F.size;omega) V
   have no:=AM (q:Int) V V;have hv:=vy List.length l;rw[rC]at hv;generalize Er (q:Int)=c9 at*;have kp:m+c9.length+(xb S f u z).length<=900000:=V;have hz:=fun b3(F:Below D r b3) gk c'(kx:Mem.Own b3 D gk (m+c9.length) c' (xs++c9))(k8:D<=b3.heap.size)=>T u z fn o b1 b3 X _ n c e (e3.below F a2) ((F.cell (p:=⟨e,0,none⟩) bs).trans d5) ((F.cell (p:=⟨e,2,none⟩) bs).trans b6) g4 g3 f6 f3 g5 g9 f4 g6 gb f5 g7 gc (g0.stay F a2) D gk (m+c9.length) c' (xs++c9) a2 bs k8 kx kp
   generalize xb S f u z=mm at*;rw[N]at er;rw[H]at a6;have nd:(q:Int)<(c3:Int):=V;subst bz;rw[wX,si]at b8 b9 be bj bk bn;have vL:=rq l;clear I T o l hv O OZ N H br WX hm k9 i4 i5 i6 ci kk a8 ak an af b4 c7 cy cz et gi hW m0;go_upto_region 29 with fail;refine td (K:=Kb (fun b=>b=w.heap.size\/b=w.heap.size+1\/b=w1.heap.size\/b=g\/b=c8)) (Kb.keeps _) (sk.of [0,1,2,3,5,6,7,8,9,10,11,12,13,14,4,15,16] .nil) [4,15] bg bg bC bg (fun _ _ d _ _ h=>bw) (fun wd E sW=> ?_);have l5:=E.size;have eb:=(f2.below E V).c 0 _ rfl;have hT:=(E.cell (p:=⟨w.heap.size+1,1,none⟩) bd).trans er;have es:=(E.cell (p:=⟨w.heap.size+1,4,none⟩) bd).trans cx;have hM:=(E.cell (p:=⟨w1.heap.size,9,none⟩) bd).trans g8;have hD:=(E.cell (p:=⟨c8,hN+q,none⟩) bd).trans a6;have d8:=(E.cell (p:=⟨g,p,none⟩) bd).trans b8;have d9:=(E.cell (p:=⟨g,p+1,none⟩) bd).trans b9;have dd:=(E.cell (p:=⟨g,p+2,none⟩) bd).trans be;have df:=(E.cell (p:=⟨g,p+3,none⟩) bd).trans bj;have di:=(E.cell (p:=⟨g,p+4,none⟩) bd).trans bk;have dj:=(E.cell (p:=⟨g,p+5,none⟩) bd).trans bn;have hx:=hy wd E;have a4:∀b,(b=w.heap.size\/b=w.heap.size+1\/b=w1.heap.size\/b=g\/b=c8)->b<wd.heap.size/\B.map (·.block)≠some b:=fun b hb=>
    by
     rcases hb with rfl|rfl|rfl|rfl|rfl;·exact nQ
     ·exact nQ
     ·exact nQ
     ·exact⟨V,cs _ fm⟩
     ·exact⟨V,cs _ k4⟩
   clear hy hS er hU hV cx gf W hF hG hH hI hJ hK hL e7 g8 s0 a6 b8 b9 be bj bk bn sW;repeat((first|(refine ua rfl rfl rfl bh ?_)|(refine uq rfl rfl rfl ?_)|(refine uk rfl rfl rfl 0 rT _ (by intro w' hb;have m1:=(Kb.cell hb (q:=⟨w.heap.size,0,none⟩) (by simp)).trans eb;have m2:=(Kb.cell hb (q:=⟨w.heap.size+1,1,none⟩) (by simp)).trans hT;have m3:=(Kb.cell hb (q:=⟨w.heap.size+1,4,none⟩) (by simp)).trans es;have m4:=(Kb.cell hb (q:=⟨w1.heap.size,9,none⟩) (by simp)).trans hM;have m5:=(Kb.cell hb (q:=⟨c8,hN+q,none⟩) (by simp)).trans hD;have m6:=(Kb.cell hb (q:=⟨g,p,none⟩) (by simp)).trans d8;have m7:=(Kb.cell hb (q:=⟨g,p+1,none⟩) (by simp)).trans d9;have m8:=(Kb.cell hb (q:=⟨g,p+2,none⟩) (by simp)).trans dd;have m9:=(Kb.cell hb (q:=⟨g,p+3,none⟩) (by simp)).trans df;have oc:=(Kb.cell hb (q:=⟨g,p+4,none⟩) (by simp)).trans di;have o5:=(Kb.cell hb (q:=⟨g,p+5,none⟩) (by simp)).trans dj;clear hb;go_simp;first|done|with_reducible rfl) ?_));simp only[Act.put,rB,rz,rA])
   refine rZ rfl rfl 0 rT (fun gs aa=> ?_);go_wp2_with fail;refine hx.mono ?_;rintro e' w4 ⟨C4,c4,rfl,D1,DV,MI⟩;clear hx;go_wp2_with fail;refine aa _ _ (fun b hb=>MI.block b (a4 b hb).1 (a4 b hb).2) ?_;clear aa eb hT es hM hD d8 d9 dd df di dj;have hC:=MI.size;have hl:Below D r w4:=(E.mono (by omega:D<=r.heap.size)).trans DV;have bz:=hz w4 hl C4 c4 D1 V;refine aQ ?_;refine rZ rfl rfl 0 rT (fun gs aa=> ?_);go_wp2_with fail;refine bz.mono ?_;rintro e' ls ⟨f0,f7,rfl,fs,fj,cl⟩;clear bz hz;go_wp2_with fail;refine aa _ _ (fun b hb=>cl.block b (sj (a4 b hb).1 hC) (MI.ne (a4 b hb).1 (a4 b hb).2)) ?_;clear aa a4;refine aQ ?_;refine sI ?_;go_wp2_with fail;go_ret;exact⟨f0,f7,by rw[vL.out,rC,<-zL];rfl,by rw[vL.out,rC,<-zL,<-rX];exact fs,(BX.trans hl).trans fj,(GX.trans ((xm.of E).trans MI)).trans cl⟩
  have o4:(x.kind==13)=false:=rr.2 V;obtain rfl:a1=[]:=by rw[vL.out,ru V,ru V,ru V,ru V,ru V,ru V,ru V,ru V,ru V,ru V]
  clear vL I T;go_wp2_with fail;go_ret;exact⟨B,d,bi,by simpa using a0,BX,GX⟩
