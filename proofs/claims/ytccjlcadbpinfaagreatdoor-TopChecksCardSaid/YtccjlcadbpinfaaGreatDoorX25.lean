import Derived.Test.YtccjlcadbpinfaaGreatDoorX23
set_option linter.all false
set_option maxRecDepth 100000
set_option maxHeartbeats 16000000
namespace Go.Proofs.YtccjlcadbpinfaaGreatDoor.Tp
open ChangeShapes WideShapes ChangeAt RowKit
open Num Mem Can
def EU(S:List Nd)(k:TD S)(w:World)(g:uI w)(X:afu)(A:aft)(n c:Nat)(j:tJ w X A n S)(hX:∀b,X b->b<w.heap.size)(i:n<=100000000):Calls Tryz.prog 16 #[.agg #[.slice A n c,.int .i64 0]] w (vh w (.bool (decide (vK S=0)))):=by
 have sK:=(afw w).al rV (sC A n c 0);have BS:=sK.yg;have d:decide (vK S=0)=(vK S==0):=by by_cases h:vK S=0<;>simp[h]
 rw[d];obtain⟨l,a⟩:=sW (vK S);rw[<-a];have e:=rz a;clear d a;go_enter Tryz.func16,Tryz.ntmps16;go_upto_region 1 with fail;have m:=sK.s1;generalize w.alloc _=w1 at*;have hC:=IY S k w1 (g.below sK) X A n c (j.below sK hX) bq i;rw[<-e.out]at hC;exact oo
def OI(w:World):(Instr.makeMap 109 none).run Tryz.prog w=.ok (.map (some w.heap.size)) (w.alloc (.map #[] 0)):=rfl
abbrev abv(w e:World)(d a:Nat)(h:aft)(m j:Nat)(g:aft)(k i:Nat)(W R:List Nd)(l:List (Int×Int)):Prop:=Ct e d (fun b=>(w.heap.size<=b/\b<e.heap.size)/\b≠a/\b≠d) h m j 0 g k i 0 a W R l
def ac7(w:World)(j i:Nat)(W R:List Nd)(h:List (Int×Int))(e:Ending)(w':World):Prop:=∃(a b:Nat)(g:aft)(l:Nat)(d:aft)(k:Nat),e=.returned (.tuple #[sg a,.int .i64 0])/\abv w w' a b g j l d i k W R h/\w.heap.size<=a/\w.heap.size<=b/\Below w.heap.size w w'
def H5{w w':World}{b B:Nat}(a:w.mapTurned w' b)(e:B<=w.heap.size):sa b B w w':=⟨⟨a.grown.os,a.grown.tape,a.grown.output⟩,a.grown.size,fun k g d=>a.grown.block k V (by simpa using d)⟩
def Ct.adT{w w':World}{r:Nat}{Y:afu}{i:aft}{n k:Nat}{p:Int}{g:aft}{m j:Nat}{o:Int}{d:Nat}{W R:List Nd}{l l':List (Int×Int)}(h:Ct w r Y i n k p g m j o d W R l)(v:w.mapTurned w' d)(t:CC w' d l'):Ct w' r Y i n k p g m j o d W R l':=by have e:=H5 v rV;exact⟨h.bx.off e h.bx.CG h.ne,h.rw.keep (fun q a=>e.cell (h.yb _ a).1 (h.yb _ a).2.1) ug,h.rr.keep (fun q a=>e.cell (h.yb _ a).1 (h.yb _ a).2.1) ug,t,fun b hb=>⟨rS (h.yb b hb).1 e.size,(h.yb b hb).2⟩,h.ne⟩
def JW(W R:List Nd)(fx:TD W)(ft:TD R)(f5:vK W=0)(f4:vK R=0)(fb:∀x∈W,MtN x)(f9:∀x∈R,MtN x)(w:World)(dx:uI w)(X:afu)(hX:∀b,X b->b<w.heap.size)(aa:aft)(m b0:Nat)(a9:aft)(j aU:Nat)(cR:tJ w X aa m W)(cE:tJ w X a9 j R)(e9:m<=1000)(e8:j<=1000):Calls Tryz.prog 20 #[.agg #[.slice aa m b0,.int .i64 0],.agg #[.slice a9 j aU,.int .i64 0]] w (ac7 w m j W R (Po W R)):=by
 have a4:=((afw w).al rV (sC aa m b0 0)).alloc bA (sC a9 j aU 0);have bd:=a4.I8;have d7:=a4.Kj;have fm:=a4.s2;have bj:=rz cR.len;have be:=rz cE.len;obtain⟨es,cv⟩:=sW (Po W R);rw[<-cv];have er:=rz cv;clear cv;go_enter Tryz.func20,Tryz.ntmps20;go_upto_region 1 with fail;generalize(w.alloc _).alloc _=d6 at*;have cS:w.heap.size+2<=d6.heap.size:=V;clear fm;have f1:∀b,X b->b<d6.heap.size:=fun b hb=>bC
 have ct:=EU W fx d6 (dx.below a4) X aa m b0 (cR.below a4 hX) f1 V;rw[rY f5]at ct;have ad:=bd.c 0 _ rfl;have af:=bd.c 1 _ rfl;go_wp2_with fail;refine sG ct fun eh b4=> ?_
 clear ct ad af;have gx:=b4.size;have cZ:=a4.trans (b4.mono V);have f2:∀b,X b->b<eh.heap.size:=fun b hb=>bC
 have cs:=EU R ft eh (dx.below cZ) X a9 j aU (cE.below cZ hX) f2 V;rw[rY f4]at cs;have d8:=bd.below b4 V;have b9:=d7.below b4 V;have ad:=b9.c 0 _ rfl;have af:=b9.c 1 _ rfl;go_wp2_with fail;refine sG cs fun e b5=> ?_
 clear cs ad af bd d7;have gz:=b5.size;have c3:=cZ.trans (b5.mono V);have bO:∀b,X b->b<e.heap.size:=fun b hb=>bC
 have c9:=d8.below b5 V;have c8:=b9.below b5 V;have ck:∀w1,Below e.heap.size e w1->Calls Tryz.prog 35 #[.agg #[.slice aa m b0,.int .i64 0]] w1 (Td W 0 m w1):=fun w1 hb=>D4 W 0 w1 X aa m b0 ((cR.below c3 hX).below hb bO) (fun b d0=>rS (bO b d0) hb.size) V
 have bs:∀w1,Below e.heap.size e w1->Calls Tryz.prog 35 #[.agg #[.slice a9 j aU,.int .i64 0]] w1 (Td R 0 j w1):=fun w1 hb=>D4 R 0 w1 X a9 j aU ((cE.below c3 hX).below hb bO) (fun b d0=>rS (bO b d0) hb.size) V
 clear d8 b9 b4 b5 a4;go_upto_region 3 with fail;go_cut [6] (fun g4 M=>∃(tb o:Nat)(D:aft)(F:Nat)(B:aft)(C:Nat),g4=sg tb/\abv e M tb o D m F B j C W R []/\e.heap.size<=tb/\e.heap.size<=o/\Below e.heap.size e M);case
  first
   =>
    refine sR (K:=Kb (fun b=>b<e.heap.size)) (Kb.keeps _) (sA.of [0,2] (.fork 1 (.fork 3 (sA.of [4,5,6,7] .nil) 4 (sA.of [3,5,6,7] .nil)) 4 (sA.of [1,3,5,6,7] .nil))) [1,3,4,6] bm bm bF bm (by intro _ _ d _ _ h;cases d<;>exact h) (fun wd y tj=> ?_);have T:=y;have ad:=(c9.below y V).c 0 _ rfl;have af:=(c9.below y V).c 1 _ rfl;have c0:=(c8.below y V).c 0 _ rfl;have c1:=(c8.below y V).c 1 _ rfl;clear y tj;repeat((first|(refine tp rfl rfl rfl bo ?_)|(refine tF rfl rfl rfl ?_)|(refine tA rfl rfl rfl 0 rV _ (by intro w' hb;have y0:=(Kb.cell hb (q:=rN w.heap.size 0) bl).trans ad;have y1:=(Kb.cell hb (q:=rN w.heap.size 1) bl).trans af;have y2:=(Kb.cell hb (q:=rN (w.heap.size+1) 0) bl).trans c0;have g7:=(Kb.cell hb (q:=rN (w.heap.size+1) 1) bl).trans c1;clear hb;go_simp;first|done|with_reducible rfl) ?_));simp only[Act.put,rH,rC,rF])
    clear ad af c0 c1;refine yr rfl rfl 0 rV (fun G a=> ?_) (fun G a=> ?_)
    ·go_wp2_with fail;refine(ck wd T).mono ?_;rintro e' r ⟨D,F,rfl,cj,a1⟩;go_wp2_with fail;refine a _ _ (Kb.below (fun b hb=>by have:=T.size;omega) a1) ?_;clear a;have L:Below e.heap.size e r:=T.sY rV a1;have c6:=cj.Ft;have g5:=a1.size;refine aO ?_;refine yr rfl rfl 0 rV (fun G a=> ?_) (fun G a=> ?_)
     ·go_wp2_with fail;refine(bs r L).mono ?_;rintro e' t ⟨B,C,rfl,b1,E⟩;go_wp2_with fail;refine a _ _ (Kb.below (fun b hb=>by have:=L.size;omega) E) ?_;clear a;have H:Below e.heap.size e t:=L.sY rV E;have b8:=b1.Ft;have ef:=E.size;refine aO ?_;refine se rfl rfl 0 rV (fun G a=> ?_);have z:=(afw t).al rV (.map #[] 0);have b7:=HW t;have an:=z.l1;have e7:=OI t;go_wp2_with fail;refine a _ _ (Kb.below (fun b hb=>by have:=H.size;omega) z) ?_;clear a;generalize t.alloc _=p at*;have N:Below e.heap.size e p:=H.sY rV z;have eg:=z.size;refine aO ?_;refine se rfl rfl 0 rV (fun G a=> ?_);go_wp2_with fail;have n:=(afw p).al rV (.cells #[.slice D m F,.int .i64 0,.slice B j C,.int .i64 0,.map (some t.heap.size)] 111);refine a _ _ (Kb.below (fun b hb=>by have:=N.size;omega) n) ?_;clear a;refine aO ?_;refine sF ?_;go_wp2_with fail;go_meet;have ar:=n.yg;have cS:=n.s1;generalize p.alloc _=vz at*;have e3:=N.size;have Z:Below r.heap.size r vz:=(E.sY rV (z.sY rV n));have em:=Z.size;have Y:Below t.heap.size t vz:=(z.sY rV n);have el:=Y.size;have U:Below p.heap.size p vz:=n;have ek:=U.size;have e6:=T.size;have e5:=L.size;have e4:=H.size;refine⟨p.heap.size,t.heap.size,D,F,B,C,rfl,⟨ar,c6.keep (fun q O=>Z.cell O.2) (fun b hb=> ?_),b8.keep (fun q O=>Y.cell O.2) (fun b hb=> ?_),b7.keep (U.block t.heap.size an),fun b hb=>⟨hb.1.2,hb.2.1,hb.2.2⟩,V⟩,V,V,N.trans (n.mono V)⟩;·refine⟨⟨V,V⟩,V,V⟩
      ·refine⟨⟨V,V⟩,V,V⟩
     ·have E:=(afw r).al rV (.map #[] 0);have b7:=HW r;have an:r.heap.size<(r.alloc (.map #[] 0)).heap.size:=by simp
      have e7:=OI r;go_wp2_with fail;refine a _ _ (Kb.below (fun b hb=>by have:=L.size;omega) E) ?_;clear a;generalize r.alloc _=t at*;have H:Below e.heap.size e t:=L.sY rV E;have ef:=E.size;refine aO ?_;refine se rfl rfl 0 rV (fun G a=> ?_);go_wp2_with fail;refine(bs t H).mono ?_;rintro e' p ⟨B,C,rfl,b1,z⟩;go_wp2_with fail;refine a _ _ (Kb.below (fun b hb=>by have:=H.size;omega) z) ?_;clear a;have N:Below e.heap.size e p:=H.sY rV z;have b8:=b1.Ft;have eg:=z.size;refine aO ?_;refine se rfl rfl 0 rV (fun G a=> ?_);go_wp2_with fail;have n:=(afw p).al rV (.cells #[.slice D m F,.int .i64 0,.slice B j C,.int .i64 0,.map (some r.heap.size)] 111);refine a _ _ (Kb.below (fun b hb=>by have:=N.size;omega) n) ?_;clear a;refine aO ?_;refine sF ?_;go_wp2_with fail;go_meet;have ar:=n.yg;have cS:=n.s1;generalize p.alloc _=vz at*;have e3:=N.size;have Z:Below r.heap.size r vz:=(E.sY rV (z.sY rV n));have em:=Z.size;have Y:Below p.heap.size p vz:=n;have el:=Y.size;have U:Below t.heap.size t vz:=(z.sY rV n);have ek:=U.size;have e6:=T.size;have e5:=H.size;have e4:=L.size;refine⟨p.heap.size,r.heap.size,D,F,B,C,rfl,⟨ar,c6.keep (fun q O=>Z.cell O.2) (fun b hb=> ?_),b8.keep (fun q O=>Y.cell O.2) (fun b hb=> ?_),b7.keep (U.block r.heap.size an),fun b hb=>⟨hb.1.2,hb.2.1,hb.2.2⟩,V⟩,V,V,N.trans (n.mono V)⟩;·refine⟨⟨V,V⟩,V,V⟩
      ·refine⟨⟨V,V⟩,V,V⟩
    ·have a1:=(afw wd).al rV (.map #[] 0);have b7:=HW wd;have an:wd.heap.size<(wd.alloc (.map #[] 0)).heap.size:=by simp
     have e7:=OI wd;go_wp2_with fail;refine a _ _ (Kb.below (fun b hb=>by have:=T.size;omega) a1) ?_;clear a;generalize wd.alloc _=r at*;have L:Below e.heap.size e r:=T.sY rV a1;have g5:=a1.size;refine aO ?_;refine se rfl rfl 0 rV (fun G a=> ?_);go_wp2_with fail;refine(ck r L).mono ?_;rintro e' t ⟨D,F,rfl,cj,E⟩;go_wp2_with fail;refine a _ _ (Kb.below (fun b hb=>by have:=L.size;omega) E) ?_;clear a;have H:Below e.heap.size e t:=L.sY rV E;have c6:=cj.Ft;have ef:=E.size;refine aO ?_;refine se rfl rfl 0 rV (fun G a=> ?_);go_wp2_with fail;refine(bs t H).mono ?_;rintro e' p ⟨B,C,rfl,b1,z⟩;go_wp2_with fail;refine a _ _ (Kb.below (fun b hb=>by have:=H.size;omega) z) ?_;clear a;have N:Below e.heap.size e p:=H.sY rV z;have b8:=b1.Ft;have eg:=z.size;refine aO ?_;refine se rfl rfl 0 rV (fun G a=> ?_);go_wp2_with fail;have n:=(afw p).al rV (.cells #[.slice D m F,.int .i64 0,.slice B j C,.int .i64 0,.map (some wd.heap.size)] 111);refine a _ _ (Kb.below (fun b hb=>by have:=N.size;omega) n) ?_;clear a;refine aO ?_;refine sF ?_;go_wp2_with fail;go_meet;have ar:=n.yg;have cS:=n.s1;generalize p.alloc _=vz at*;have e3:=N.size;have Z:Below t.heap.size t vz:=(z.sY rV n);have em:=Z.size;have Y:Below p.heap.size p vz:=n;have el:=Y.size;have U:Below r.heap.size r vz:=(E.sY rV (z.sY rV n));have ek:=U.size;have e6:=L.size;have e5:=H.size;have e4:=T.size;refine⟨p.heap.size,wd.heap.size,D,F,B,C,rfl,⟨ar,c6.keep (fun q O=>Z.cell O.2) (fun b hb=> ?_),b8.keep (fun q O=>Y.cell O.2) (fun b hb=> ?_),b7.keep (U.block wd.heap.size an),fun b hb=>⟨hb.1.2,hb.2.1,hb.2.2⟩,V⟩,V,V,N.trans (n.mono V)⟩;·refine⟨⟨V,V⟩,V,V⟩
     ·refine⟨⟨V,V⟩,V,V⟩
 case
  rest=>
   obtain⟨M,g1⟩:=sW wc;subst g1;obtain⟨tb,o,D,F,B,C,rfl,e2,go,an,cx⟩:=hcut;have h1:=cx.size;have f3:=c3.trans (cx.mono V);clear ck bs c9 c8 c3 cx;have fc:1000000<maxLen:=by simp[maxLen]
   go_wp2_with fail;go_loopw [7] (fun d5 wr=>∃(c7:Int)(l:List (Int×Int)),d5=.int .i64 c7/\JZ W R es c7 l/\Ct wr tb (fun b=>(e.heap.size<=b/\b<M.heap.size)/\b≠o/\b≠tb) D m F 0 B j C 0 o W R l/\sa o M.heap.size M wr) (fun d5 _=>1000001-(intOf d5+1).toNat);case atStart=>exact⟨-1,[],rfl,by rw[er.out];exact Pp W R,e2,sa.refl _ _ _⟩
   case
    round=>
     clear e2;obtain⟨c7,l,rfl,a3,v,I⟩:=hrel;have f8:=v.mp.len 3;have gi:l.length<=1000000:=by have b2:=a3.adH;rw[bj.out,be.out]at b2;exact sn b2 (by have:=Nat.mul_le_mul e9 e8;omega)
     have gs:=a3.2.1;obtain⟨h2,fE⟩:=sW wr;subst fE;obtain⟨a5,a6,a7,a8,t4, -⟩:=v.bx.xe;by_cases eb:c7<(l.length:Int)
     ·have ea:=a3.step eb;have S:=a3.1;obtain⟨bn,cr⟩:=sW (M7 W R l);rw[<-cr]at ea;have d9:=rz (show bn=Pm W R (m-0) 0 l from by rw[cr,<-bj.out];rfl);clear cr a3;go_wp2_with fail;go_loopw [44] (fun d3 wr=>∃(i:Nat)(l:List (Int×Int)),d3=.int .i64 i/\i<=m/\bn=Pm W R (m-i) i l/\Bz W.length R.length l/\Ct wr tb (fun b=>(e.heap.size<=b/\b<M.heap.size)/\b≠o/\b≠tb) D m F 0 B j C 0 o W R l/\sa o M.heap.size M wr) (fun d3 _=>m-(intOf d3).toNat);case atStart=>exact⟨0,l,rfl,sb _,d9.out,S,v,I⟩
      case
       round=>
        clear d9 S v I a5 a6 a7 a8 t4 f8;obtain⟨i,c4,rfl,g9,bw,S,v,I⟩:=hrel;obtain⟨h3,fS⟩:=sW wr;subst fS;obtain⟨a5,a6,a7,a8,t4, -⟩:=v.bx.xe;by_cases cy:i<m
        ·have gb:(i:Int)<(m:Int):=V;obtain⟨bk,a2⟩:=sW (Pn W R i (j-0) 0 c4);have en:=rz (show bn=Pm W R (m-(i+1)) (i+1) bk from by rw[bw,show m-i=m-(i+1)+1 from V,a2,<-be.out];rfl);have dd:=rz a2;clear bw a2;go_wp2_with fail;go_loopw [53] (fun d4 wr=>∃(k:Nat)(l:List (Int×Int)),d4=.int .i64 k/\k<=j/\bk=Pn W R i (j-k) k l/\Bz W.length R.length l/\Ct wr tb (fun b=>(e.heap.size<=b/\b<M.heap.size)/\b≠o/\b≠tb) D m F 0 B j C 0 o W R l/\sa o M.heap.size M wr) (fun d4 _=>j-(intOf d4).toNat);case atStart=>exact⟨0,c4,rfl,sb _,dd.out,S,v,I⟩
         case
          round=>
           clear dd S v I a5 a6 a7 a8 t4;obtain⟨k,A,rfl,gc,bx,S,v,I⟩:=hrel;obtain⟨w7,g0⟩:=sW wr;subst g0;by_cases cz:k<j
           ·have gf:(k:Int)<(j:Int):=V;have cc:=rz (show bk=Pn W R i (j-(k+1)) (k+1) (M6 W R i k A)from by rw[bx,show j-k=j-(k+1)+1 from V];rfl);have cA:=QA (i:=i) (k:=k) S (by rw[bj.out];exact cy) (by rw[be.out];exact cz);have f7:A.length<maxLen:=by have b2:=S.le;rw[bj.out,be.out]at b2;exact th (sn b2 (by have:=Nat.mul_le_mul e9 e8;omega)) fc
            clear bx;have dz:=Eu cy V;have e0:=Eu cz V;have g2:=I.size;have f0:=v.bx.CG;have g8:=v.mp.lt;have az:=(afw w7).al rV (.cells #[.int .i64 (i:Int),.int .i64 (k:Int)] 113);have dj:=az.yg;have ds:=v.below az;have ed:=I.trans (sa.of (g:=o) (az.mono g2));have fn:=az.s1;go_upto_region 14 with fail;generalize w7.alloc _=ei at*;have fl:w7.heap.size<ei.heap.size:=V;clear fn az v I;have e1:M6 W R i k A=if(!IC A i k&& !Ry W R (IC A) i k)=true then((i:Int),(k:Int))::A else A:=rfl;generalize M6 W R i k A=c5 at*;have df:=rz e1;clear e1;refine sR (K:=Kb (fun b=>b<ei.heap.size)) (Kb.keeps _) (sA.of [0,1,2,3,4,5,6,7,8,9,10,11,12] .nil) [10] bm bm bF bm bt (fun wd y tj=> ?_);have a0:=ds.below y;have bp:=dj.below y fl;have d2:=ed.trans (sa.of (g:=o) (y.mono V));have gR:=y.size;clear y tj ds dj ed;have p0:=bp.c 0 _ rfl;have p1:=bp.c 1 _ rfl;obtain⟨a5,a6,a7,a8,t4, -⟩:=a0.bx.xe;have gr:=f0;have fi:=a0.mp.lt;have ec:=a0.mp;have bv:=RA a0 i k cy cz V V fb f9;have gl:o<w7.heap.size:=V;clear a5 a6 a7 a8;have gk:=fi;obtain⟨ch,bz⟩:=sW (A.contains ((i:Int),(k:Int)));have a2:∀w':World,w'.heap[o]? =wd.heap[o]?->(Instr.lookup 109 (.map (some o)) (.agg #[.int .i64 (i:Int),.int .i64 (k:Int)]) false).run Tryz.prog w'=.ok (.bool ch) w':=fun w' h=>by rw[bz];exact(ec.keep h).look dz e0
            obtain⟨di,cp⟩:=sW (Ry W R (IC A) i k);rw[<-cp]at bv;have ab:=rz (show c5=if(!ch&& !di)=true then((i:Int),(k:Int))::A else A from by rw[df.out,bz,cp];rfl);have cf:=rz bz;clear df bz cp;repeat((first|(refine tp rfl rfl rfl bo ?_)|(refine tF rfl rfl rfl ?_)|(refine tA rfl rfl rfl 0 rV _ (by intro w' hb;have y0:=(Kb.cell hb (q:=rN tb 4) bl).trans t4;have y1:=(Kb.cell hb (q:=rN w7.heap.size 0) bl).trans p0;have y2:=(Kb.cell hb (q:=rN w7.heap.size 1) bl).trans p1;have g7:=a2 w' (hb o V);clear hb;go_simp;first|done|with_reducible rfl) ?_));simp only[Act.put,rH,rC,rF])
            cases ch with
            |true=>
             obtain rfl:c5=A:=by rw[ab.out];rfl
             clear ab cf a2 bv;refine ba ?_;refine se rfl rfl 0 rV (fun G a=> ?_);go_wp2_with fail;refine a _ _ (fun _ _=>rfl) ?_;clear a;refine aO ?_;refine sF ?_;go_wp2_with fail;refine⟨⟨k+1,_,bA,V,cc.out,cA,a0,d2⟩,?_⟩;exact bN
            |false=>
             refine ba ?_;refine se rfl rfl 0 rV (fun G a=> ?_);go_wp2_with fail;refine sG bv fun g6 b6=> ?_
             clear bv;go_wp2_with fail;refine a _ _ (fun b hb=>b6.block b V) ?_;clear a;have ci:=a0.below b6;have dp:=bp.below b6 V;have d1:=d2.trans (sa.of (g:=o) (b6.mono V));have gA:=b6.size;clear a0 bp d2 t4 p0 p1 ec a2;cases di with
             |true=>
              obtain rfl:c5=A:=by rw[ab.out];rfl
              clear ab cf;refine aO ?_;refine sF ?_;go_wp2_with fail;refine⟨⟨k+1,_,bA,V,cc.out,cA,ci,d1⟩,?_⟩;exact bN
             |false=>
              obtain rfl:c5=((i:Int),(k:Int))::A:=by rw[ab.out];rfl
              clear ab;refine aO ?_;refine sF ?_;go_upto_region 15 with fail;refine sR (K:=Kb (fun b=>b<g6.heap.size/\b≠o)) (Kb.keeps _) (sA.of [0,1,2,3,4,5] .nil) [5] bm bm bF bm bt (fun wd y tj=> ?_);have br:=ci.below y;have dr:=dp.below y V;have g3:=d1.trans (sa.of (g:=o) (y.mono V));have gW:=y.size;clear y tj ci dp d1;have p0:=dr.c 0 _ rfl;have p1:=dr.c 1 _ rfl;obtain⟨a5,a6,a7,a8,t4, -⟩:=br.bx.xe;clear a5 a6 a7 a8;obtain⟨h4,gn,ff,cW⟩:=br.mp.put dz e0 cf.out.symm f7;have et:=br.adT cW ff;have off:=g3.trans ((H5 cW rV).mono V);have f6:=cW.grown;have fj:=br.ne;repeat((first|(refine tp rfl rfl rfl bo ?_)|(refine tF rfl rfl rfl ?_)|(refine tA rfl rfl rfl 0 rV _ (by intro w' hb;have y0:=(Kb.cell hb (q:=rN tb 4) ⟨fA,fj⟩).trans t4;have y1:=(Kb.cell hb (q:=rN w7.heap.size 0) ⟨fA,fA⟩).trans p0;have y2:=(Kb.cell hb (q:=rN w7.heap.size 1) ⟨fA,fA⟩).trans p1;clear hb;go_simp;first|done|with_reducible rfl) ?_));simp only[Act.put,rH,rC,rF])
              refine se rfl rfl 0 rV (fun G a=> ?_);go_wp2_with fail;refine a _ _ (fun b hb=>f6.block b V lg) ?_;clear a;refine sF ?_;go_wp2_with fail;refine⟨⟨k+1,_,bA,V,cc.out,cA,et,off⟩,?_⟩;exact bN
           ·have gd:¬(k:Int)<(j:Int):=V;have b3:bk=A:=by rw[bx,show j-k=0 from V];rfl
            have cb:=rz b3;clear bx b3;go_wp2_with fail;refine⟨⟨i+1,A,bA,V,by rw[en.out,cb.out],S,v,I⟩,?_⟩;exact bN
        ·have ga:¬(i:Int)<(m:Int):=V;have b3:bn=c4:=by rw[bw,show m-i=0 from V];rfl
         have cb:=rz b3;clear bw b3;go_wp2_with fail;refine⟨⟨_,c4,rfl,cb.out▸ea,v,I⟩,?_⟩;exact bN
     ·have y:=a3.done eb;subst y;clear a3;go_wp2_with fail;go_ret2;have h0:=I.size;exact⟨tb,o,D,F,B,C,rfl,⟨v.bx,v.rw.keep (fun _ _=>rfl) (fun b hb=>⟨⟨V,V⟩,hb.2⟩),v.rr.keep (fun _ _=>rfl) (fun b hb=>⟨⟨V,V⟩,hb.2⟩),v.mp,fun b hb=>⟨hb.1.2,hb.2⟩,v.ne⟩,V,V,f3.trans (I.below V V)⟩
def Y2:D5 ((0:Nat):Int):=Eu (n:=1) V V
def EP{w:World}{i:Nat}{Y:afu}{k:aft}{d o:Nat}{q:Int}{j:aft}{b n:Nat}{p:Int}{g:Nat}{W R:List Nd}{l:List (Int×Int)}(e:Ct w i Y k d o q j b n p g W R l)(y:0<d)(v:0<b):Calls Tryz.prog 21 #[sg i,.int .i64 0,.int .i64 0] w (zW w (.bool (!l.contains (0,0)))):=by
 obtain⟨m,a⟩:=sW (l.contains ((0:Int),(0:Int)));have t:(Instr.lookup 109 (.map (some g)) (.agg #[.int .i64 0,.int .i64 0]) false).run Tryz.prog w=.ok (.bool m) w:=by rw[a];exact e.mp.look Y2 Y2
 rw[<-a];have r:=rz a;clear a;obtain⟨A,B,C,D,E, -⟩:=e.bx.xe;have z:¬(d:Int)<=0:=V;have x:¬(b:Int)<=0:=V;go_enter Tryz.func21,Tryz.ntmps21;exact bI
def DS(W R:List Nd):Bool:= !(Po W R).contains (0,0)
structure SS(S:List Nd):Prop where
 sm:TD S
 ck:vK S=0
 mt:∀x∈S,MtN x
def JD(R W:List Nd)(n:SS R)(p:SS W)(w:World)(C:uI w)(X:afu)(hX:∀b,X b->b<w.heap.size)(g:aft)(d l:Nat)(e:aft)(a k:Nat)(H:tJ w X g d W)(G:tJ w X e a R)(F:d<=1000)(E:a<=1000)(B:0<d)(A:0<a):Calls Tryz.prog 185 #[.agg #[.slice e a k,.int .i64 0],.agg #[.slice g d l,.int .i64 0]] w (vh w (.bool (DS W R))):=by have sK:=((afw w).al rV (sC e a k 0)).alloc bA (sC g d l 0);have i:=sK.I8;have j:=sK.Kj;have I:=sK.s2;obtain⟨y,o⟩:=sW (DS W R);rw[<-o];have q:=rz o;clear o;go_enter Tryz.func185,Tryz.ntmps185;go_upto_region 1 with fail;generalize(w.alloc _).alloc _=x at*;have N:w.heap.size+2<=x.heap.size:=V;clear I;have t:=JW W R p.sm n.sm p.ck n.ck p.mt n.mt x (C.below sK) X bq g d l e a k (H.below sK hX) (G.below sK hX) F E;have z:=i.c 0 _ rfl;have r:=i.c 1 _ rfl;have c0:=j.c 0 _ rfl;have c1:=j.c 1 _ rfl;go_wp2_with fail;refine t.mono ?_;rintro e' Z ⟨Y,S,L,U,K,T,rfl,D,O,M,vb⟩;clear t z r c0 c1;have Q:=vb.size;have m:=EP D B A;have r:=(i.below vb V).c 1 _ rfl;have c1:=(j.below vb V).c 1 _ rfl;have v:y= !(Po W R).contains (0,0):=q.out;rw[<-v]at m;clear v q;go_wp2_with fail;refine tZ m ?_;clear m;exact nB
def agP(m:Int)(S a:List Nd):Bool:=if m=1\/m=4 then DS a S else if m=2\/m=5 then DS S a else if m=3\/m=6 then DS a S&&DS S a else true
def NP(m:Int)(T:0<=m/\m<=6)(S a:List Nd)(G:SS S)(E:SS a)(w:World)(F:uI w)(X:afu)(q:∀b,X b->b<w.heap.size)(i:aft)(e o:Nat)(g:aft)(d n:Nat)(L:tJ w X i e S)(K:tJ w X g d a)(I:e<=1000)(H:d<=1000)(D:0<e)(C:0<d):Calls Tryz.prog 147 #[.int .i64 m,.agg #[.slice i e o,.int .i64 0],.agg #[.slice g d n,.int .i64 0]] w (vh w (.bool (agP m S a))):=by
 have sK:=((afw w).al rV (sC i e o 0)).alloc bA (sC g d n 0);have t:=sK.I8;have r:=sK.Kj;have Q:=sK.s2;have p:∀w1,Below w.heap.size w w1->Calls Tryz.prog 185 #[.agg #[.slice i e o,.int .i64 0],.agg #[.slice g d n,.int .i64 0]] w1 (vh w1 (.bool (DS a S))):=fun w1 hb=>JD S a G E w1 (F.below hb) X (fun b z=>rS (q b z) hb.size) g d n i e o (K.below hb q) (L.below hb q) H I C D
 have j:∀w1,Below w.heap.size w w1->Calls Tryz.prog 185 #[.agg #[.slice g d n,.int .i64 0],.agg #[.slice i e o,.int .i64 0]] w1 (vh w1 (.bool (DS S a))):=fun w1 hb=>JD a S E G w1 (F.below hb) X (fun b z=>rS (q b z) hb.size) i e o g d n (L.below hb q) (K.below hb q) I H D C
 obtain⟨l,k⟩:=sW (agP m S a);rw[<-k];unfold agP at k;generalize DS a S=v at*;generalize DS S a=x at*;have HV:=rz k;clear k;go_enter Tryz.func147,Tryz.ntmps147;go_upto_region 1 with fail;generalize(w.alloc _).alloc _=R at*;have U:w.heap.size+2<=R.heap.size:=V;clear Q;have A:=t.c 0 _ rfl;have B:=t.c 1 _ rfl;have c0:=r.c 0 _ rfl;have c1:=r.c 1 _ rfl;have O:m=0\/(m=1\/m=4)\/(m=2\/m=5)\/m=3\/m=6:=V;rcases O with rfl|(rfl|rfl)|(rfl|rfl)|rfl|rfl;·obtain rfl:l=true:=cT;clear HV p j;exact bL
 iterate 2
  ·obtain rfl:l=v:=cT;clear HV j;go_wp2_with fail;refine sG (p _ sK) fun M vb=> ?_
   clear p;exact nB
 iterate 2
  ·obtain rfl:l=x:=cT;clear HV p;go_wp2_with fail;refine sG (j _ sK) fun M vb=> ?_
   clear j;exact nB
 iterate 2
  ·have k:l=(v&&x):=cT;have Lv:=rz k;clear HV k;go_wp2_with fail;refine sG (p _ sK) fun M vb=> ?_
   clear p A B c0 c1;have W:=vb.size;have y:=sK.trans (vb.mono V);have A:=(t.below vb V).c 0 _ rfl;have B:=(t.below vb V).c 1 _ rfl;have c0:=(r.below vb V).c 0 _ rfl;have c1:=(r.below vb V).c 1 _ rfl;cases v with
   |false=>obtain rfl:l=false:=ls;clear Lv j;go_wp2_with fail;go_ret;exact⟨rfl,y⟩
   |true=>
    obtain rfl:l=x:=ls;clear Lv;go_wp2_with fail;refine sG (j _ y) fun Y N=> ?_
    clear j;go_wp2_with fail;go_ret;exact⟨rfl,y.trans (N.mono V)⟩
structure Bj(w:World)(rb g c:Nat)(K M:Value)(nm:afs)(m:Int)(ry:aft)(nv cv:Nat):Prop where
 bx:Bx w rb [K,.slice (some ⟨g,0,none⟩) 1 c,M]
 c0:w.cell? (rN g 0)=some (.string ⟨nm.toArray⟩)
 c1:w.cell? (rN g 1)=some (.int .i64 m)
 c2:w.cell? (rN g 2)=some (.slice ry nv cv)
 fz:∀j,j<3->w.frozen? (rN g j)=false
 lt:g<w.heap.size
 ne:g≠rb
section
variable(b a:Nat){w w':World}{B n r i d g c:Nat}{K M:Value}
def Bj.keep{k:afs}{m:Int}{e:aft}{l i:Nat}(h:Bj w d g c K M k m e l i)(p:w.heap.size<=w'.heap.size)(o:w'.heap[d]? =w.heap[d]?)(b:w'.heap[g]? =w.heap[g]?):Bj w' d g c K M k m e l i:=⟨h.bx.AA o,(rK (w:=w) (a:=rN g 0) b).trans h.c0,(rK (w:=w) (a:=rN g 1) b).trans h.c1,(rK (w:=w) (a:=rN g 2) b).trans h.c2,fun j n=>(sP (w:=w) (a:=rN g j) b).trans (h.fz j n),rS h.lt p,h.ne⟩
def Bj.below{d:afs}{m:Int}{a:aft}{e b:Nat}(h:Bj w i g c K M d m a e b)(hb:Below w.heap.size w w'):Bj w' i g c K M d m a e b:=h.keep hb.size (hb.block _ h.bx.CG) (hb.block _ h.lt)
def Vp(K M:Value)(i:afs)(m:Int)(w:World)(t:Bx w a [K,.slice none 0 0,M]):Calls Tryz.prog 47 #[sg a,.string ⟨i.toArray⟩,.int .i64 m] w fun e w'=>∃g c:Nat,e=.returned (sg g)/\Bj w' a g c K M i m none 0 0/\w.heap.size<=g/\sa a w.heap.size w w':=by
 have H:=t.CG;have E:=(afw w).al rV (.cells #[.string ⟨i.toArray⟩,.int .i64 m,.slice none 0 0] 101);have a0:uK (WU 3) 101 3 nS nS (w.alloc (.cells #[.string ⟨i.toArray⟩,.int .i64 m,.slice none 0 0] 101)) w.heap.size none 0 0 []:=uK.nil _ _ _ _ _ _ _;have a1:=t.below E H;have s0:=t.c 1 _ rfl;go_enter Tryz.func47,Tryz.ntmps47;go_wp2_with(at_builtin;go_must(refine tn (z:=.agg #[.string ⟨#[]⟩,.int .i64 0,.slice none 0 0]) (bytes:=48) (H1:=w.heap.size) (y:=[.string ⟨i.toArray⟩,.int .i64 m,.slice none 0 0]) (cs:=[.string ⟨i.toArray⟩,.int .i64 m,.slice none 0 0]) rfl Tryz.underlying92 Uz rfl V V (EC 3) rfl rfl a0 ⟨rfl,rfl,dq⟩ V jy bW bW (fun j u I=>by rcases j with _|_|_|j<;>simp at I<;>subst I<;>go_simp) V bA ?_);intro x r v G F _ _;have C:=t.below (E.trans F) H;have a2:=C.c 1 _ rfl;have R:=C.f 1);obtain⟨l,W, -,X,A,n⟩:=Ag (y:=[.string ⟨i.toArray⟩,.int .i64 m,.slice none 0 0]) G V;have L:=E.trans F;have o:=(sa.refl a v.heap.size v).setAt 1 (.slice x 1 r);have D:=C.set 1 (.slice x 1 r);simp only[rC,rF]at D;have S:=(o.cell (p:=rN l 0) A bl).trans (n 0 _ rfl).1;have T:=(o.cell (p:=rN l 1) A bl).trans (n 1 _ rfl).1;have U:=(o.cell (p:=rN l 2) A bl).trans (n 2 _ rfl).1;have gf:∀j,j<3->(v.setCell ⟨a,1,none⟩ (.slice x 1 r)).frozen? (rN l j)=false:=fun j a5=>(o.frozen (p:=rN l j) A bl).trans (by rcases j with _|_|_|j;exact(n 0 _ rfl).2;exact(n 1 _ rfl).2;exact(n 2 _ rfl).2;omega)
 have Y:sa a w.heap.size w (v.setCell ⟨a,1,none⟩ (.slice x 1 r)):=(sa.of L).trans (o.mono L.size);clear G n F a1 s0;go_upto_region 2 with fail;generalize v.setCell _ _=a4 at*;have a6:=o.size;subst W;clear a2 R C t;refine sR (K:=Kb (fun b=>b<a4.heap.size)) (Kb.keeps _) (sA.of [0,1,2,3,4,5,6,7,8,9,10,11] .nil) [] bm bm bF bm bt (fun wd B tj=> ?_);have N:=D.below B V;have O:Bj wd a l r K M i m none 0 0:=Bj.below ⟨D,S,T,U,gf,V,V⟩ B;have Z:=Y.trans (sa.of (g:=a) (B.mono V));clear B tj;have a3:=N.c 1 _ rfl;repeat((first|(refine tp rfl rfl rfl bo ?_)|(refine tF rfl rfl rfl ?_)|(refine tA rfl rfl rfl 0 rV _ (by intro w' hb;have a7:=(Kb.cell hb (q:=rN a 1) bl).trans a3;clear hb;go_simp;first|done|with_reducible rfl) ?_));simp only[Act.put,rH,rC,rF])
 rw[show IntKind.i64.wrap 0=0 from bH];refine aO ?_;refine sF ?_;go_wp2_with fail;go_ret;exact⟨l,r,bA,O,X,Z⟩
def Sm(K M:Value)(d:afs)(R:d.length<=1000)(C:vL d=true)(m:Int)(N:0<=m/\m<=6)(w:World)(z:uI w)(i:Bx w b [K,.slice none 0 0,M]):Calls Tryz.prog 18 #[sg b,.string ⟨d.toArray⟩,.int .i64 m] w fun e w'=>∃g c:Nat,e=.returned (.int .i64 0)/\Bj w' b g c K M d m none 0 0/\w.heap.size<=g/\sa b w.heap.size w w':=by
 have x:=i.CG;have q:=O0 b K M none 0 d w i;have O:¬m<0:=V;have Q:¬6<m:=V;go_enter Tryz.func18,Tryz.ntmps18;go_wp2_with fail;refine sG q fun G k=> ?_
 clear q;have E:=i.below k x;have o:=Bw d V G (z.below k);rw[C]at o;go_wp2_with fail;refine sG o fun H v=> ?_
 clear o;have S:=k.size;have T:=v.size;have t:=k.sY rV v;have y:=i.below t x;have p:=Vp b K M d m H y;have F:=y.c 1 _ rfl;clear i E;go_wp2_with fail;refine p.mono ?_;rintro e' l ⟨g,c,rfl,a,I,r⟩;clear p F;have W:=a.c1;have X:=a.fz 1 V;have U:=r.size;have n:=(sa.refl g l.heap.size l).setAt 1 (.int .i64 m);have L:=a.lt;have B:Bj (l.setCell ⟨g,1,none⟩ (.int .i64 m)) b g c K M d m none 0 0:=⟨a.bx.off n a.bx.CG (Ak a.ne),(tg _ _ _ _ eC).trans a.c0,EY _ _ _ a.c1,(tg _ _ _ _ eC).trans a.c2,fun j D=>by rw[vH];exact a.fz j D,rS a.lt n.size,a.ne⟩;have A:sa b w.heap.size w (l.setCell ⟨g,1,none⟩ (.int .i64 m)):=((sa.of (g:=b) t).trans (r.mono V)).trans (sa.of (n.below V V));go_wp2_with fail;go_ret;exact⟨g,c,bA,B,V,A⟩
def tJ.zd{X:afu}{A:aft}{n:Nat}{S:List Nd}(h:tJ w X A n S)(s:sZ w w')(a:∀b,X b->b<w.heap.size):tJ w' X A n S:=h.keep (fun q d=>s.cell (a _ d)) ug
def Bx.zd{a:List Value}(h:Bx w r a)(s:sZ w w'):Bx w' r a:=h.AA (s.2 r h.CG)
def Rd.zd{A:aft}{xs:afs}(h:Rd w B A n xs)(s:sZ w w')(a:B<=w.heap.size):Rd w' w'.heap.size A n xs:=(Mem.Rd.keep h (fun p b=>s.cell (rS b a))).more (sn a s.1)
def vy(h:uI w)(s:sZ w w'):uI w':=yw h (fun b hb=>s.2 b (by have:=h.two;omega))
end
structure Spk(w w':World)(X:afu)(r:Nat):Prop where
 hi:∀j,4<=j->w.cell? (rN r j)=none
 ot:∀q:Addr,X q.block->q.block≠r->w'.cell? q=w.cell? q
 sm:∀j u,w.cell? (rN r j)=some u->((∃s,u=.string s)\/∃v,u=.int .i64 v)->w'.cell? (rN r j)=some u
section
variable(l:List Int){w w':World}{r B q n c m d:Nat}
def Row.M1{X:afu}{r k n:Nat}{A:aft}{e:List (List Value)}(h:Row w X k A n e)(s:Spk w w' X r)(d:4<k\/∀cs∈e,∀u∈cs,(∃s,u=.string s)\/∃v,u=.int .i64 v):Row w' X k A n e:=⟨h.len,fun y=>
 by
  obtain⟨g,p,x,o,b⟩:=h.pos y;refine⟨g,p,x,o,fun i cs a=>⟨(b i cs a).1,fun j u t=> ?_⟩⟩;have l:=(b i cs a).2 j u t;by_cases q:g=r
  ·subst q;rcases d with d|d;·have z:=(b i cs a).1;have m:=(b i cs a).2 4 (cs[4]' V) (rD V);rw[s.hi _ V]at m;cases m
   ·exact s.sm _ u l (d cs (rU a) u (rU t))
  ·rw[s.ot _ o q];exact l⟩
def Lf(l:List afs):∀cs∈uL l,∀u∈cs,(∃s,u=.string s)\/∃v,u=.int .i64 v:=fun cs h u a=>by obtain⟨t,_,rfl⟩:=ti.1 h;rw[sJ.1 a];exact .inl ⟨_,rfl⟩
def aab:∀cs∈xZ l,∀u∈cs,(∃s,u=.string s)\/∃v,u=.int .i64 v:=fun cs h u a=>by obtain⟨t,_,rfl⟩:=ti.1 h;rw[sJ.1 a];exact .inr ⟨_,rfl⟩
def uq.M1{X:afu}{r:Nat}{cs:List Value}{j:J}(h:uq w X cs j)(s:Spk w w' X r):uq w' X cs j:=by
 induction h with
 |mk hr hl _ ZR hn Xy hc Xm ih=>exact .mk (hr.M1 s (.inl V)) hl (fun i h a=>ih i h a) (ZR.M1 s (.inr (Lf _))) hn Xy hc Xm
def xu.M1{X:afu}{r n:Nat}{A:aft}{l:List Fd}(h:xu w X A n l)(s:Spk w w' X r):xu w' X A n l:=by
 obtain⟨a,b,d,e⟩:=h;refine⟨a,b.M1 s (.inl V),d,fun i k m=> ?_⟩;have h:=e i k m;generalize a[i]=cs at h|-;generalize l[i]=f at h|-;cases h with
 |mk g j p o=>exact .mk (g.M1 s (.inr (Lf _))) j p (o.M1 s)
def tJ.M1{X:afu}{r n:Nat}{A:aft}{l:List Nd}(h:tJ w X A n l)(s:Spk w w' X r):tJ w' X A n l:=by
 obtain⟨e,a,b,d⟩:=h;refine⟨e,a.M1 s (.inl V),b,fun i p q=> ?_⟩;have h:=d i p q;generalize e[i]=cs at h|-;generalize l[i]=x at h|-;cases h with
 |mk a b d g j k m o t v y z=>exact .mk (a.M1 s (.inr (Lf _))) (b.M1 s) (d.M1 s (.inr (Lf _))) (g.M1 s (.inr (aab _))) j k m o t v y z
def Lb{A B:aft}{a b:Int}{h:Bx w r [.slice A n c,.int .i64 a,.slice B m d,.int .u64 b]}{n' c' z k:Nat}{A' B':aft}{g:Int}(l:Bx w' r [.slice A' n' c',.int .i64 a,.slice B' z k,.int .u64 g])(X:afu)(x:sa r w.heap.size w w')(o:∀b,X b->b<w.heap.size):Spk w w' X r:=by
 refine⟨fun j C=> ?_,fun q y p=>x.cell (o _ y) p,fun j u hu hk=> ?_⟩;·obtain⟨t,e⟩:=h;obtain⟨i,rfl⟩:∃i,j=i+1+1+1+1:=⟨j-4,V⟩;rw[AO w r _ _ t (0,0) e];simp
 ·rcases j with _|_|_|_|j;·rw[h.c 0 _ rfl]at hu;exact dR
  ·rw[h.c 1 _ rfl]at hu;injection hu with hu;subst hu;exact l.c 1 _ rfl
  ·rw[h.c 2 _ rfl]at hu;exact dR
  ·rw[h.c 3 _ rfl]at hu;exact dR
  ·obtain⟨t,e⟩:=h;rw[AO w r _ _ t (0,0) e]at hu;rw[show([.slice A n c,.int .i64 a,.slice B m d,.int .u64 b]:List Value).toArray[j+1+1+1+1]? =none from bA]at hu;cases hu
def OY{n:Nat}{k l A:aft}{a b:Int}{xs:afs}(h:Rd w B A n xs)(hb:Bx w r [.slice k q c,.int .i64 a,.slice l m d,.int .u64 b])(x:sa r w.heap.size w w')(E:B<=w.heap.size):Rd w' B A n xs:=⟨h.1,fun p=>
 by
  obtain⟨g,i,e,v,o⟩:=h.2 p;have y:g≠r:=by
   rintro rfl;have D:0<xs.length:=by rw[h.1];exact p
   have h0:=o 0 xs[0] (rD D);rw[sE]at h0;rcases i with _|_|_|_|i;·rw[hb.c 0 _ rfl]at h0;exact iK
   ·rw[hb.c 1 _ rfl]at h0;injection h0 with h0;exact iK
   ·rw[hb.c 2 _ rfl]at h0;exact iK
   ·rw[hb.c 3 _ rfl]at h0;injection h0 with h0;exact iK
   ·obtain⟨t,z⟩:=hb;rw[AO w g _ _ t (0,0) z]at h0;rw[show([.slice k q c,.int .i64 a,.slice l m d,.int .u64 b]:List Value).toArray[i+1+1+1+1]? =none from bA]at h0;cases h0
  exact⟨g,i,e,v,fun j u C=>(x.cell (by show g<w.heap.size;omega) y).trans (o j u C)⟩⟩
end
structure Tt(S:List Nd)(own:afs):Prop where
 gn:∀x∈S,EH x
 bw:PM S 0 S.length=0
 ck:vK S=0
 tx:zR S 0=.ok own
 fm:AU S 0=0
 ln:own.length<=20000
def ac8(w:World)(S:List Nd)(own:afs)(e:Ending)(w':World):Prop:=∃(A:aft)(n c g d:Nat)(h:Int),e=.returned (.tuple #[.agg #[.slice A n c,.int .i64 0,.slice (some ⟨g,0,none⟩) own.length d,.int .u64 h],.int .i64 0])/\tJ w' (fun b=>b<w'.heap.size) A n S/\n<=1000/\own.length<=d/\Rd w' w'.heap.size (some ⟨g,0,none⟩) own.length own/\sZ w w'
def aar{i:Func}{p q:Tmp}{te:Value}(h:i.results= #[.cell p 103,.tmp q]){g:Array Value}{w:World}{r:Nat}{A B:aft}{n c m d:Nat}{a b:Int}(hp:g.getD p undef=sg r)(hq:g.getD q undef=te)(e:Bx w r [.slice A n c,.int .i64 a,.slice B m d,.int .u64 b]):(results i g).run Tryz.prog w=.ok (.tuple #[.agg #[.slice A n c,.int .i64 a,.slice B m d,.int .u64 b],te]) w:=by
 have o:=e.c 0 _ rfl;have t:=e.c 1 _ rfl;have v:=e.c 2 _ rfl;have x:=e.c 3 _ rfl;have j:(loadVar 103 ⟨r,0,none⟩).run Tryz.prog w=.ok (.agg #[.slice A n c,.int .i64 a,.slice B m d,.int .u64 b]) w:=by clear hp hq h e;go_simp
 have k:g[p]?.getD undef=sg r:=gg;have l:g[q]?.getD undef=te:=fY;simp only[results,h];simp[uJ,Result.andThen,k,l,asAddr,j]
def Ql(S:List Nd)(own:afs)(d:Tt S own)(A:aft)(n c B:Nat)(w:World)(v:uI w)(ad:Rd w B A n own)(L:B<=w.heap.size)(a8:n<=100000000)(a9:n<=c):Calls Tryz.prog 92 #[.slice A n c] w (ac8 w S own):=by
 have y:=(afw w).al rV (.cells #[.slice none 0 0,.int .i64 0,.slice none 0 0,.int .u64 0] 103);have G:=y.yg;have C:=GK d.gn;have T:∀x∈S,PH x:=fun x b1=>(d.gn x b1).sm
 obtain⟨a7,ab⟩:=US d.gn d.bw d.ck d.tx (SizeOf.sizeOf (uZ S 0)+1) (xU _);have O:=fun(w1:World)(a2:uI w1)(a3:Rd w1 B A n own)(a4:B<=w1.heap.size)=>I5 (SizeOf.sizeOf (uZ S 0)+1) own (.ok (uZ S 0)) ab C (xU _) A n c B w1 a2 a3 a4 a8 a9
 rw[a7]at O;have U:=d.tx;have N:=d.fm;go_enter Tryz.func92,Tryz.ntmps92;go_upto_region 1 with fail;generalize w.alloc _=w1 at*;have E:=sZ.below y;have af:=ad.sV y L;have a6:=O w1 (vy v E) af (sn L E.1);have a0:=rz U;have Z:=rz N;clear U N;go_wp2_with fail;refine a6.mono ?_;rintro b6 i ⟨j,l,k,rfl,az,b0,s2⟩;have b3:=E.trans s2;have a1:=G.zd s2;have K:=(afw i).al rV (FX j l k);have H:=K.yg;go_upto_region 4 with fail;generalize i.alloc _=Y at*;have o:=sZ.below K;have W:=b3.trans o;have z:=az.zd o ug;have m:∀b,b<i.heap.size->b<Y.heap.size:=fun b hb=>rS hb o.1
 have R:=ET S 0 C.small (fun _=>C) (Je S) Y (fun b=>b<i.heap.size) j l k z m V (vy v W) T;rw[a0.out]at R;obtain⟨s0,s1, -⟩:=H.LU;go_wp2_with fail;refine R.mono ?_;rintro b7 b5 ⟨a5,g,D,rfl,aa,an⟩;have e:=sZ.below a5;have X:=W.trans e;have I:=H.zd e;have Q:=Zk S 0 b5 (fun b=>b<i.heap.size) j l k (z.zd e m) (fun b hb=>rS (m b hb) e.1) V (vy v X) T;rw[Z.out]at Q;obtain⟨s0,s1, -⟩:=I.LU;go_wp2_with fail;refine sG Q fun F M=> ?_
 generalize PX S 0=r at*;have p:=sZ.below M;have b4:=X.trans p;have a:=((a1.zd o).zd e).zd p;obtain⟨s0,s1, -⟩:=(I.zd p).LU;have bn:=a.c 0 _ rfl;have bp:=a.c 1 _ rfl;have br:=a.c 2 _ rfl;have bs:=a.c 3 _ rfl;have bv:=a.f;have ar:=an.sV M rV;have aU:=((z.zd e m).zd p (fun b hb=>rS (m b hb) e.1));have b8:w.heap.size<w1.heap.size:=G.CG;have b9:=s2.1;have bd:=o.1;have be:=e.1;have bj:=p.1;go_wp2_with fail;have t:=(((a.set 0 (.slice j l k)).set 1 (.int .i64 0)).set 2 (.slice (some ⟨g,0,none⟩) own.length D)).set 3 (.int .u64 r);simp only[rC,rF]at t;have q:sa w.heap.size F.heap.size F ((((F.setCell ⟨w.heap.size,0,none⟩ (.slice j l k)).setCell ⟨w.heap.size,1,none⟩ (.int .i64 0)).setCell ⟨w.heap.size,2,none⟩ (.slice (some ⟨g,0,none⟩) own.length D)).setCell ⟨w.heap.size,3,none⟩ (.int .u64 r)):=bu;refine sc (aar rfl rfl rfl t) rfl ?_;have b2:=Lb (h:=a) t (fun b=>b<i.heap.size) q bP;have bk:=q.size;refine⟨j,l,k,g,D,r,rfl,(aU.M1 b2).keep (fun _ _=>rfl) bP,b0.2,aa,?_,wy b4 q rV⟩;exact(OY ar a q V).more V
