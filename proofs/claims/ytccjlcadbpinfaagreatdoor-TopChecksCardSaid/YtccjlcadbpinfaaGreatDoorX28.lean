import Derived.Test.YtccjlcadbpinfaaGreatDoorX26
import Derived.Test.YtccjlcadbpinfaaGreatDoorX27
set_option linter.all false
set_option maxRecDepth 100000
set_option maxHeartbeats 16000000
namespace Go.Proofs.YtccjlcadbpinfaaGreatDoor.Tp
open ChangeShapes WideShapes ChangeAt RowKit
open Num Mem Can
def BL{k n c H:Nat}{e:TypeId}{w w':World}{A:aft}{l:List (List Value)}(h:uK (WU k) e k nS nS w H A n c l)(hb:∀b,A.map (·.block)=some b->w'.heap[b]? =w.heap[b]?):uK (WU k) e k nS nS w' H A n c l:=by
 obtain⟨d,a,j,m,o,p⟩:=h;refine⟨d,?_,j,m,o,fun i q r=>p i q r⟩;refine⟨a.1,?_⟩;rcases a.2 with h|⟨g,cap,cur,hv,hbg,hg,hr⟩;·exact .inl h
 ·exact gv
def TE(w w':World)(H a g:Nat):Prop:=w.heap.size<=w'.heap.size/\(∀b,b<H->b≠a->b≠g->w'.heap[b]? =w.heap[b]?)/\w'.os=w.os/\w'.output=w.output
def Ss(H:Nat)(S ch:List Nd)(own Y:afs)(d2:Y≠own)(rb g c:Nat)(M:Value)(ad:afs)(m:Int)(A:aft)(n c':Nat)(al:Bool)(w:World)(ct:NJ H w rb g c M ad m ch Y)(ea:rb<H)(e5:g<H)(e2:H<=w.heap.size)(b6:Calls Tryz.prog 48 #[sg rb,.string ⟨ad.toArray⟩,.slice A n c'] w (PC w S own al)):Calls Tryz.prog 19 #[sg rb,.string ⟨ad.toArray⟩,.slice A n c'] w fun e w'=>e=.returned (if al=true then .tuple #[.int .i64 2,.int .i64 2,.int .i64 0]else .tuple #[.int .i64 0,.int .i64 0,.int .i64 61])/\TE w w' H rb g:=by
 obtain⟨B,c7,cf,ci,bj,bO,bv,bx,bw,bz,R,c3,c4,e9,e4,e3,d4⟩:=ct;obtain⟨e0,N, -,e6,X,W⟩:=Ag (y:=[.slice bj bO bv,.int .i64 0,.slice (some ⟨bx,0,none⟩) Y.length bw,.int .u64 bz]) c3 V;injection N with N;injection N with N _ _;subst N;obtain⟨e1,O, -,ef,eg,d7⟩:=Ag (y:=[.int .i64 1,.int .i64 0]) c4 V;injection O with O;injection O with O _ _;subst O;have d5:=R.bx.CG;have cW:=R.lt;have e8:=R.ne;obtain⟨a5,b7⟩:∃a5:Value,a5=if al=true then .tuple #[.int .i64 2,.int .i64 2,.int .i64 0]else .tuple #[.int .i64 0,.int .i64 0,.int .i64 61]:=⟨_,rfl⟩;rw[<-b7];have a2:=rz b7;clear b7;go_enter Tryz.func19,Tryz.ntmps19;go_wp2_with fail;refine b6.mono ?_;rintro e' w2 (⟨U,p,v,t,o,l,h,rfl,eb,ec,ed,d3,s2⟩|⟨U,rfl,s2⟩);case
  inr=>
   obtain rfl:a5=.tuple #[.int .i64 0,.int .i64 0,.int .i64 61]:=by rw[a2.out,U];rfl
   have i:=s2.trans (sZ.below ((afw w2).al rV (.cells #[.slice none 0 0,.int .i64 0,.slice none 0 0,.int .u64 0] 103)));clear a2 U b6;go_wp2_with fail;go_ret3;exact⟨rfl,i.1,fun b hb _ _=>i.2 b V,i.env.1,i.env.2⟩
 obtain rfl:a5=.tuple #[.int .i64 2,.int .i64 2,.int .i64 0]:=by rw[a2.out,U];rfl
 clear b6 a2 U;have ei:=s2.1;have br:=R.keep s2.1 (s2.2 _ d5) (s2.2 _ cW);have L:=(afw w2).al rV (.cells #[.slice p v t,.int .i64 0,.slice (some ⟨o,0,none⟩) own.length l,.int .u64 h] 103);have az:=L.yg;have d6:=L.s1;go_upto_region 4 with fail;generalize w2.alloc _=be at*;have ek:w2.heap.size<be.heap.size:=V;clear d6 R;have b1:=br.below L;have i:=s2.trans (sZ.below L);have c8:=(i.cell (show(⟨B,0,none⟩:Addr).block<w.heap.size from X)).trans (W 0 _ rfl).1;have c9:=(i.cell (show(⟨B,1,none⟩:Addr).block<w.heap.size from X)).trans (W 1 _ rfl).1;have cb:=(i.cell (show(⟨B,2,none⟩:Addr).block<w.heap.size from X)).trans (W 2 _ rfl).1;have cc:=(i.cell (show(⟨B,3,none⟩:Addr).block<w.heap.size from X)).trans (W 3 _ rfl).1;have c6:=Qs rb _ M B c7 bj bO bv (some ⟨bx,0,none⟩) Y.length bw bz (some ⟨o,0,none⟩) own.length l be.heap.size Y own d2 be b1.bx c8 c9 cb cc (rS X i.1) (Rd.zd d4 i rV) ((d3.sV L rV).more V) rV;have d8:=az.c 2 _ rfl;clear c8 c9 cb cc;go_wp2_with fail;refine sG c6 fun dx a9=> ?_
 clear c6 d8 br;have el:=a9.size;have x:=b1.below a9;have bk:=az.below a9 V;have di:=i.trans (sZ.below a9);have c5:=Dr rb (.slice (some ⟨B,0,none⟩) 1 c7) M g c ad m (some ⟨cf,0,none⟩) 1 ci dx x.bx x.c0 x.c1 x.c2 x.lt;go_wp2_with fail;refine sG c5 fun f1 aa=> ?_
 clear c5 b1;have em:=aa.size;have I:=x.below aa;have bn:=bk.below aa V;have dj:=di.trans (sZ.below aa);have b5:=I.c2;have bd:=I.bx.c 0 _ rfl;have df:=I.bx.c 1 _ rfl;clear x bk az;go_upto_region 15 with fail;clear b5 bd df;refine vO (K:=Kb (fun b=>b=rb\/b=w2.heap.size)) (Kb.keeps _) (sA.of [0,1,2,3,4,5,6,7,8,9] .nil) 10 (sA.of [] .nil) [6,7] [4,5] bm bm bF bm bt (fun wd a tj=> ?_);have b2:=I.below a;have a3:=bn.below a V;have dp:=dj.trans (sZ.below a);have en:=a.size;clear a tj I bn;have d0:=b2.bx.c 0 _ rfl;obtain⟨x0,x1,x2,x3⟩:_/\_/\_/\_:=⟨a3.c 0 _ rfl,a3.c 1 _ rfl,a3.c 2 _ rfl,a3.c 3 _ rfl⟩;refine bf ?_;refine uC rfl rfl 0 rV (fun bp r=> ?_);go_wp2_with fail;have a6:=(afw wd).al rV (.cells #[.slice p v t,.int .i64 0,.slice (some ⟨o,0,none⟩) own.length l,.int .u64 h] 103);refine r _ _ (Kb.below bP a6) ?_;clear r;have er:=a6.s1;have bs:=b2.below a6;obtain⟨y0,y1,y2,y3⟩:_/\_/\_/\_:=⟨(Bx.new wd #[.slice p v t,.int .i64 0,.slice (some ⟨o,0,none⟩) own.length l,.int .u64 h] 103 wd.heap.size rfl).c 0 _ rfl,(Bx.new wd #[.slice p v t,.int .i64 0,.slice (some ⟨o,0,none⟩) own.length l,.int .u64 h] 103 wd.heap.size rfl).c 1 _ rfl,(Bx.new wd #[.slice p v t,.int .i64 0,.slice (some ⟨o,0,none⟩) own.length l,.int .u64 h] 103 wd.heap.size rfl).c 2 _ rfl,(Bx.new wd #[.slice p v t,.int .i64 0,.slice (some ⟨o,0,none⟩) own.length l,.int .u64 h] 103 wd.heap.size rfl).c 3 _ rfl⟩;have C:=dp.trans (sZ.below a6);generalize wd.alloc _=dz at*;have cr:=c3.grown (EC 4) C.1 (fun b _ b9 _=>C.2 b b9);have cx:=c4.grown (EC 2) C.1 (fun b _ b9 _=>C.2 b b9);refine aK ?_;refine uC rfl rfl 0 rV (fun bp r=> ?_);go_wp2_with(at_builtin;go_must(refine tn (z:=.agg #[.slice none 0 0,.int .i64 0,.slice none 0 0,.int .u64 0]) (bytes:=64) (H1:=dz.heap.size) (y:=[.slice p v t,.int .i64 0,.slice (some ⟨o,0,none⟩) own.length l,.int .u64 h]) (cs:=[.slice p v t,.int .i64 0,.slice (some ⟨o,0,none⟩) own.length l,.int .u64 h]) rfl Tryz.underlying91 P8 rfl V V (EC 4) rfl rfl cr ⟨rfl,rfl,dq⟩ V (fun b hb=>gh) bW bW (fun j u hu=>gX) V V ?_);intro ar b4 a0 d1 b8 E _);refine r _ _ (Kb.DZ (fun b hb=>⟨V,by simp;omega⟩) E) ?_;clear r y0 y1 y2 y3 d0 x0 x1 x2 x3 d1;have es:=E.1;have a4:=bs.keep E.1 (E.2 _ V (by simp;omega)) (E.2 _ V (by simp;omega));have e7:B≠cf:=by rintro rfl;have af:=(W 0 _ rfl).1;rw[(d7 0 _ rfl).1]at af;injection af with af;cases af
 have cy:=BL cx (w':=a0) (fun b hb=>E.2 b gh (by simp at hb;simp;omega));have d0:=a4.bx.c 0 _ rfl;have cj:=a4.bx.f 0;refine aK ?_;refine Az rfl (fun bp r=> ?_);go_wp2_with fail;refine r _ _ trivial ?_;clear r;refine sF ?_;have b3:=a4.acf (.slice ar 2 b4);have G:=(sa.refl rb a0.heap.size a0).setAt 0 (.slice ar 2 b4);clear d0 cj a4 bs b2;have et:=G.size;have cz:=BL cy (w':=a0.setCell ⟨rb,0,none⟩ (.slice ar 2 b4)) (fun b hb=>G.block b gh gh);generalize a0.setCell _ _=an at*;have bd:=b3.bx.c 0 _ rfl;have b5:=b3.c2;have D:=(afw an).al rV (.cells #[.int .i64 2,.int .i64 0] 108);have cv:=BL cz (w':=(an.alloc (.cells #[.int .i64 2,.int .i64 0] 108))) (fun b hb=>D.block b gh);have aU:=b3.below D;go_wp2_with(at_builtin;go_must(refine tn (z:=.agg #[.int .i64 0,.int .i64 0]) (bytes:=16) (H1:=an.heap.size) (y:=[.int .i64 2,.int .i64 0]) (cs:=[.int .i64 2,.int .i64 0]) rfl Tryz.underlying99 P9 rfl V V (EC 2) rfl rfl cv ⟨rfl,rfl,dq⟩ V (fun b hb=>gh) bW bW (fun j u hu=>kN) V (by simp;omega) ?_);intro a1 a7 Z cZ a8 ab _;have b0:=aU.keep ab.1 (ab.2 _ aU.bx.CG (by simp;omega)) (ab.2 _ aU.lt (by simp;omega));have d9:=b0.c2;have dd:=b0.fz 2 V);have F:=(sa.refl g Z.heap.size Z).setAt 2 (.slice a1 2 a7);have eh:=ab.1;have f0:=D.size;have dr:(Z.setCell ⟨g,2,none⟩ (.slice a1 2 a7)).cell? (rN g 2)=some (.slice a1 2 a7):=EY _ _ _ b0.c2;have T:TE w (Z.setCell ⟨g,2,none⟩ (.slice a1 2 a7)) H rb g:=by
  refine⟨sn V F.size,fun b hb cR cE=> ?_,?_,?_⟩;·rw[F.block b V cE,a8.block b hb,D.block b V,G.block b V cR,b8.block b hb];exact C.2 b V
  ·rw[F.env.1,a8.os,D.os,G.env.1,b8.os];exact C.env.1
  ·rw[F.env.2.2,a8.output,D.output,G.env.2.2,b8.output];exact C.env.2
 clear bd b5 d9 dd cZ a8;go_upto_region 18 with fail;generalize Z.setCell _ _=ds at*;have cS:g<ds.heap.size:=by have:=F.size;omega
 refine sR (K:=Kb (fun b=>b=g)) (Kb.keeps _) (sA.of [0,1,2,3,4,5,6,7,8] .nil) [] bm bm bF bm bt (fun wd a tj=> ?_);have vd:=a.cl dr cS;have cA:TE w wd H rb g:=⟨sn T.1 a.size,fun b hb ck cp=>(a.block b (by have:=T.1;omega)).trans (T.2.1 b hb ck cp),a.os.trans T.2.2.1,a.output.trans T.2.2.2⟩;clear a tj;refine bg ?_;refine sF ?_;go_wp2_with fail;go_ret3;exact⟨bA,cA⟩
structure PI(H:Nat)(w w':World):Prop where
 size:w.heap.size<=w'.heap.size
 AA:∀b,b<H->w'.heap[b]? =w.heap[b]?
 env:w'.os=w.os/\w'.output=w.output
section
variable{S:List Nd}{e:Int}(m:Int){g B H l:Nat}{a b c w w':World}
def PI.of(h:sZ w w')(a:H<=w.heap.size):PI H w w':=⟨h.1,fun b hb=>h.2 b V,h.3⟩
def PI.trans(h:PI H a b)(k:PI H b c):PI H a c:=⟨sn h.1 k.1,fun q d=>(k.2 q d).trans (h.2 q d),k.env.1.trans h.env.1,k.env.2.trans h.env.2⟩
def PI.zd(h:PI H w w')(a:w.heap.size<=H):sZ w w':=⟨h.1,fun b hb=>h.2 b V,h.3⟩
def PI.cell(h:PI H w w'){q:Addr}(a:q.block<H):w'.cell? q=w.cell? q:=rK (w:=w) (h.2 _ a)
def PI.off(h:sa g B w w')(d:H<=g)(a:H<=B):PI H w w':=⟨h.size,fun b hb=>h.block b V V,h.env.1,h.env.2.2⟩
def NJ.zd{g c:Nat}{w w':World}{M:Value}{k:afs}{m:Int}{S:List Nd}{own:afs}(h:NJ H w l g c M k m S own)(s:sZ w w'):NJ H w' l g c M k m S own:=by
 obtain⟨x,y,D,o,n,A,z,C,B,r,e,i,j,t,q,p,v⟩:=h;obtain⟨E,a, -, -,G, -⟩:=Ag i V;obtain⟨F,d, -, -,I, -⟩:=Ag j V;refine⟨x,y,D,o,n,A,z,C,B,r,e.keep s.1 (s.2 _ e.bx.CG) (s.2 _ e.lt),BL i (fun b hb=>s.2 b ?_),BL j (fun b hb=>s.2 b ?_),(t.zd s ug).keep (fun _ _=>rfl) (fun b hb=>rS hb s.1),q,p,Rd.zd v s rV⟩;·injection a with a;injection a with a _ _;subst a;exact gh
 ·injection d with d;injection d with d _ _;subst d;exact gh
def RW(a S:List Nd)(k own:afs)(E:Tt S own)(z:SS a)(F:SS S)(U:k≠own)(x:0<a.length)(y:0<S.length)(H l g c:Nat)(M:Value)(i:afs)(W:i.length<=1000)(L:vL i=true)(m:Int)(Q:0<=m/\m<=6)(A:aft)(n c':Nat)(w:World)(B:uI w)(X:Rd w w.heap.size A n own)(R:n<=100000000)(T:n<=c')(G:NJ H w l g c M i m a k):Calls Tryz.prog 48 #[sg l,.string ⟨i.toArray⟩,.slice A n c'] w (PC w S own (WD m S a)):=by obtain⟨a0,a1,a4,r,q,v,t,a3,a2,N,D,C,I,o,K,a7,Y⟩:=G;obtain⟨a5,d, -, -,O,j⟩:=Ag C V;obtain⟨a6,e, -, -,Z,p⟩:=Ag I V;injection d with d;injection d with d _ _;subst d;injection e with e;injection e with e _ _;subst e;exact RV S own E l g c a1 r M i W L m A n c' w.heap.size (fun b=>b<w.heap.size) w B X rV R T a k z F U a0 a4 q v t (some ⟨a3,0,none⟩) k.length a2 N (p 0 _ rfl).1 (p 1 _ rfl).1 Z (j 0 _ rfl).1 (j 1 _ rfl).1 (j 2 _ rfl).1 (j 3 _ rfl).1 O o ug K (by rw[<-o.len];exact x) Y Q y D
def alQ(m:Int)(B F:Bool):Bool:=(!(decide (m=1)||decide (m=3)||decide (m=4)||decide (m=6))||B)&&(!(decide (m=2)||decide (m=3)||decide (m=5)||decide (m=6))||F)
def Zo(b:0<=m/\m<=6)(S a:List Nd):WD m S a=alQ m (DS a S) (DS S a):=by unfold WD agP alQ;generalize DS a S=B;generalize DS S a=F;rcases(show m=0\/m=1\/m=2\/m=3\/m=4\/m=5\/m=6 from V)with rfl|rfl|rfl|rfl|rfl|rfl|rfl<;>cases B<;>cases F<;>rfl
def Uq{a S:List Nd}(h:Fe a S=false):((∀x∈a,SR x)/\a.length<=40)/\(∀x∈S,SR x)/\S.length<=40:=by unfold Fe C0 at h;simp only[Bool.or_eq_false_iff,xY]at h;exact⟨⟨(T1 V).2,V⟩,(T1 V).2,V⟩
def Vi{own:afs}(d:∀x∈S,EH x)(b:vK S=0)(a:zR S 0=.ok own):Tt S own:=⟨d,Sl (BE b),b,a,(FB a).1,(FB a).2⟩
def VK(h:zR S 0=.error e):e≠0:=by
 unfold zR at h;split at h
 ·split at h;·injection h with h;omega
  ·unfold zo at h;split at h
   ·split at h;·injection h with h;omega
    ·cases h
   ·injection h with h;omega
 ·rename_i a;injection h with h;rw[<-h];exact a
def JJ(S:List Nd)(j:∀x∈S,EH x)(w:World)(X:afu)(A:aft)(n c:Nat)(l:tJ w X A n S)(p:∀b,X b->b<w.heap.size)(t:n<=100000000)(o:uI w):Calls Tryz.prog 8 #[.agg #[.slice A n c,.int .i64 0]] w fun e w'=>∃(m:aft)(k d:Nat)(te:Int)(own:afs),e=.returned (.tuple #[.slice m k d,.int .i64 te])/\Below w.heap.size w w'/\(te=0->zR S 0=.ok own/\k<=20000/\k<=d/\Rd w' w'.heap.size m k own):=by
 refine(ET S 0 (GK j).small (fun _=>GK j) (Je S) w X A n c l p t o (fun x v=>(j x v).sm)).mono ?_;rintro e w' ⟨hb,i⟩;cases a:zR S 0 with
 |error te=>rw[a]at i;exact⟨_,_,_,te,[],i,hb,fun h=>absurd h (VK a)⟩
 |ok own=>rw[a]at i;obtain⟨g,c,r,q,l⟩:=i;exact⟨_,_,_,0,own,r,hb,fun _=>⟨rfl,(FB a).2,q,l⟩⟩
def sZ.stx{e g:Nat}(h:sZ a b)(x:StX b c e g)(j:a.heap.size<=e)(i:a.heap.size<=g):sZ a c:=⟨sn h.1 x.1,fun q d=>(x.2.1 q (rS d h.1) V V).trans (h.2 q d),x.2.2.1.trans h.env.1,x.2.2.2.trans h.env.2⟩
def sZ.adR{H d g:Nat}(h:sZ a b)(x:TE b c H d g)(i:a.heap.size<=H)(k:a.heap.size<=d)(j:a.heap.size<=g):sZ a c:=⟨sn h.1 x.1,fun q e=>(x.2.1 q V V V).trans (h.2 q e),x.2.2.1.trans h.env.1,x.2.2.2.trans h.env.2⟩
def XN:0<=wrap64 ((IntKind.u64.wrap m).tmod 7)/\wrap64 ((IntKind.u64.wrap m).tmod 7)<=6:=by
 have a:0<=IntKind.u64.wrap m:=by simp[IntKind.wrap,IntKind.signed,IntKind.bits];omega
 rw[Int.tmod_eq_emod_of_nonneg a,vw V V];omega
def IJ(ds:∀w,uI w->Calls Tryz.prog 5 #[] w fun e w'=>e=.returned (.bool true)/\sZ w w')(i S:List Nd)(m:Int)(w:World)(p:uI w)(X:afu)(j:∀b,X b->b<w.heap.size)(A:aft)(n c:Nat)(rE:Int)(a9:CQ w X A n i)(fn:n<=9223372036854775807)(A':aft)(n' c':Nat)(O:Int)(aa:CQ w X A' n' S)(ft:n'<=9223372036854775807):Calls Tryz.prog 4 #[.agg #[.slice A n c,.int .i64 rE],.agg #[.slice A' n' c',.int .i64 O],.int .i64 m] w fun e w'=>e=.returned (.bool true)/\sZ w w':=by
 have sK:=((afw w).al rV (sC A n c rE)).alloc bA (sC A' n' c' O);have d3:=sK.I8;have d5:=sK.Kj;have bd:=a9.rg;have be:=aa.rg;go_enter Tryz.func4,Tryz.ntmps4;go_upto_region 1 with fail;generalize(w.alloc _).alloc _=w1 at*;have cW:=sZ.below sK;have el:=ds w1 (vy p cW);clear sK ds;go_wp2_with fail;refine sG el fun f6 s2=> ?_
 clear el;have b0:=cW.trans s2;have b2:=d3.zd s2;have b5:=d5.zd s2;have e2:∀b,X b->b<f6.heap.size:=fun b hb=>rS (j b hb) b0.1
 have ed:=a9.keep (fun q cr=>b0.cell (j _ cr));have ef:=aa.keep (fun q cr=>b0.cell (j _ cr));have cp:=Oq i S rE O f6 X e2 A n c ed fn A' n' c' ef ft;obtain⟨W,c8⟩:=sW (Fe i S);rw[<-c8]at cp;have dd:=rz c8;clear c8 d3 d5;have l:=b2.c 0 _ rfl;have o:=b2.c 1 _ rfl;have G:=b5.c 0 _ rfl;have H:=b5.c 1 _ rfl;go_wp2_with fail;refine sG cp fun g3 e4=> ?_
 clear cp l o G H;have bp:=sZ.below e4;have bw:=b0.trans bp;cases W with
 |true=>go_wp2_with fail;go_ret;exact⟨rfl,bw⟩
 |false=>
  have y:=Uq dd.out.symm;have en:=a9.len;have er:=aa.len;have gf:n<=40:=by have:=y.1.2;omega
  have gi:n'<=40:=by have:=y.2.2;omega
  have cR:=TR y.1.1 bd;have cS:=TR y.2.1 be;have a3:=a9.fit y.1.1;have a4:=aa.fit y.2.1;have c3:=rz en;have c4:=rz er;have Y:=rz y;have b3:=b2.zd bp;have d6:=b5.zd bp;clear dd y e4 ed ef a9 aa en er b2 b5;have v:∀a,sZ w a->∀b,X b->b<a.heap.size:=fun a s b hb=>rS (j b hb) s.1
  have ct:=fun a(s:sZ w a)=>Qt i rE cR a (vy p s) X A n c (a3.zd s j) (v a s) V
  have cv:=fun a(s:sZ w a)=>Qt S O cS a (vy p s) X A' n' c' (a4.zd s j) (v a s) V
  obtain⟨f9,c9⟩:∃W,W=SB i rE:=⟨_,rfl⟩;obtain⟨fb,cb⟩:∃W,W=SB S O:=⟨_,rfl⟩;rw[<-c9]at ct;rw[<-cb]at cv;have df:=rz c9;have di:=rz cb;clear c9 cb;have ei:=ct g3 bw;have l:=b3.c 0 _ rfl;have o:=b3.c 1 _ rfl;go_wp2_with fail;refine sG ei fun g4 e5=> ?_
  clear ei l o ct;have br:=sZ.below e5;have bx:=bw.trans br;cases f9 with
  |false=>go_wp2_with fail;go_ret;exact⟨rfl,bx⟩
  |true=>
   have b6:=d6.zd br;have ek:=cv g4 bx;have G:=b6.c 0 _ rfl;have H:=b6.c 1 _ rfl;go_wp2_with fail;refine sG ek fun f7 e6=> ?_
   clear ek G H cv;have bs:=sZ.below e6;have U:=bx.trans bs;cases fb with
   |false=>go_wp2_with fail;go_ret;exact⟨rfl,U⟩
   |true=>
    obtain⟨fE,a6⟩:rE=0/\vK i=0:=by have:=df.out;unfold SB at this;simpa using this.symm
    obtain⟨g0,a7⟩:O=0/\vK S=0:=by have:=di.out;unfold SB at this;simpa using this.symm
    subst fE g0;have c6:=JH (BE a6) Y.out.1.1 bd;have c7:=JH (BE a7) Y.out.2.1 be;have D:SS i:=⟨cR,a6,fun x af=>YP (Y.out.1.1 x af) (bd x af)⟩;have E:SS S:=⟨cS,a7,fun x af=>YP (Y.out.2.1 x af) (be x af)⟩;have cy:0<n:=by have:=(v7 (BE a6)).1.1;have:=c3.out;omega
    have cz:0<n':=by have:=(v7 (BE a7)).1.1;have:=c4.out;omega
    have b4:=(b3.zd br).zd bs;have d7:=b6.zd bs;clear df di e5 e6 b3 d6 b6 cR cS bd be;have z:=JJ i c6 f7 X A n c (a3.zd U j) (v f7 U) V (vy p U);have l:=b4.c 0 _ rfl;have o:=b4.c 1 _ rfl;go_wp2_with fail;refine z.mono ?_;rintro e' f8 ⟨d9,k,d,te,N,rfl,e7,ab⟩;clear z l o;have bv:=sZ.below e7;have b1:=U.trans bv;have b7:=d7.zd bv;have I:=JJ S c7 f8 X A' n' c' (a4.zd b1 j) (v f8 b1) V (vy p b1);have l:=b7.c 0 _ rfl;have o:=b7.c 1 _ rfl;go_wp2_with fail;refine I.mono ?_;rintro e' K ⟨bO,cx,b9,f3,an,rfl,e8,ad⟩;clear I l o;have ar:=sZ.below e8;have t:=b1.trans ar;by_cases z:te=0;case
     neg=>
      have g6:(te !=0)=true:=by simp[z]
      clear ab ad z;go_wp2_with fail;go_ret;exact⟨rfl,t⟩
    by_cases I:f3=0;case
     neg=>
      have g6:(f3 !=0)=true:=by simp[I]
      subst z;clear ab ad I;go_wp2_with fail;go_ret;exact⟨rfl,t⟩
    obtain⟨cZ,gc,fl,f1⟩:=ab z;obtain⟨d0,gd,fm,bn⟩:=ad I;subst z I;have bk:=Rd.zd f1 ar rV;have fc:=K8 (c:=d) bk;have ff:=K8 (c:=b9) bn;by_cases a8:N=an;·subst a8;clear ab ad cZ d0;go_wp2_with fail;go_ret;exact⟨rfl,t⟩
    have et:=Vi c6 a6 cZ;have f0:=Vi c7 a7 d0;have gb:=v K t;have d4:=(b4.zd bv).zd ar;have d8:=b7.zd ar;have fx:(N==an)=false:=rA.2 a8;clear ab ad f1 b4 d7 b7 e7 e8 a6 a7 c6 c7 cZ d0;obtain⟨M,cc⟩:=sW (wrap64 ((IntKind.u64.wrap m).tmod 7));have ci:0<=M/\M<=6:=by rw[cc];exact XN m
    have dj:=rz cc;clear cc;go_wp2_with(first|(refine zy rfl rfl bk ?_)|(refine zy rfl rfl bn ?_));refine sG (Vt K) fun g5 ⟨b8,ck⟩=> ?_
    obtain⟨C,eg⟩:=sW (K.heap.size+1);rw[<-eg]at b8|-;have cs:K.heap.size<=C:=V;generalize Value.map (some K.heap.size)=Z at b8;clear eg;have cE:=sZ.below ck;have em:=ck.size;have eb:=Sm C (.slice none 0 0) Z [97] bH bH M ci g5 (vy p (t.trans cE)) b8;go_wp2_with fail;rw[<-dj.out];refine eb.mono ?_;rintro e' L ⟨g,c2,rfl,a0,fi,es⟩;clear eb b8;have aU:sZ K L:=((PI.of cE rV).trans (PI.off es cs em)).zd rV;have g2:=aU.1;have ea:K.heap.size<=g:=sn em fi;have e1:=RU i N et C g c2 0 0 Z [97] bH bH M d9 k d L.heap.size X L (vy p (t.trans aU)) (Rd.zd bk aU rV) rV V fl a0;have ec:=Sr i N C g c2 Z [97] M d9 k d L a0 e1;have fS:=a0.bx.CG;have fj:=a0.lt;go_wp2_with fail;refine sG ec fun f4 ⟨d2,c5⟩=> ?_
    clear ec e1 es a0 cE ck;have az:=aU.stx d2 cs ea;have R:=t.trans az;have g1:=d2.1;have a5:=JW i S D.sm E.sm D.ck E.ck D.mt E.mt f4 (vy p R) X (v f4 R) A n c A' n' c' (a3.zd R j) (a4.zd R j) V V;have a1:=d4.zd az;have a2:=d8.zd az;have l:=a1.c 0 _ rfl;have o:=a1.c 1 _ rfl;have G:=a2.c 0 _ rfl;have H:=a2.c 1 _ rfl;go_wp2_with fail;refine a5.mono ?_;rintro e' f5 ⟨gx,gk,g9,gr,g7,gn,rfl,dx, -, -,e3⟩;clear a5 l o G H;have r:=sZ.below e3;have T:=R.trans r;have a5:=JW S i E.sm D.sm E.ck D.ck E.mt D.mt f5 (vy p T) X (v f5 T) A' n' c' A n c (a4.zd T j) (a3.zd T j) V V;have l:=(a1.zd r).c 0 _ rfl;have o:=(a1.zd r).c 1 _ rfl;have G:=(a2.zd r).c 0 _ rfl;have H:=(a2.zd r).c 1 _ rfl;go_wp2_with fail;refine a5.mono ?_;rintro e' bz ⟨gz,gl,ga,gs,g8,go,rfl,dz, -, -,cj⟩;clear a5 l o G H a1 a2;have Q:=sZ.below cj;have f2:=T.trans Q;have cA:=az.trans (r.trans Q);have bj:=fun a(s:sZ bz a)=>RW i S N an f0 D E a8 (by rw[c3.out];exact cy) (by rw[c4.out];exact cz) L.heap.size C g c2 Z [97] bH bH M ci bO cx b9 a (vy p (f2.trans s)) (Rd.zd bn (cA.trans s) rV) V fm (c5.zd ((r.trans Q).trans s))
    have cf:=EP (dx.below cj) cy cz;have ch:=EP dz cz cy;obtain⟨al,sK⟩:=sW (WD M S i);rw[<-sK]at bj;rw[Zo M ci S i]at sK;unfold DS at sK;generalize(!(Po i S).contains (0,0))=B at sK cf;generalize(!(Po S i).contains (0,0))=F at sK ch;have e9:=fun a(s:sZ bz a)=>OX C [97] an S al bO cx b9 a (bj a s)
    have eh:=fun a(s:sZ bz a)=>Ss L.heap.size S i an N a8 C g c2 Z [97] M bO cx b9 al a (c5.zd ((r.trans Q).trans s)) fS fj (sn g1 (sn r.1 (sn Q.1 s.1))) (bj a s)
    have e0:∀a d1,sZ bz a->TE a d1 L.heap.size C g->sZ w d1:=fun a d1 s x=>t.trans ((cA.trans s).adR x g2 cs ea)
    have HAL:=rz sK;have HCK:=rz e9;have HRG:=rz eh;have Ze:=rz e0;have dp:=rz cf;have dr:=rz ch;clear sK e9 eh e0 cf ch bj dx dz c5 v a3 a4 et f0 c3 c4 Y D E bk bn a8 fx fc ff dj d4 d8 e2 cW s2 b0 bp bw br bx bs U bv b1 ar t aU az R r T Q f2 cA e3 cj d2;rcases(show(M=1\/M=4)\/(M=2\/M=5)\/(M=3\/M=6)\/M=0 from V)with h|h|h|rfl
    ·rcases h with rfl|rfl;all_goals
      go_wp2_with fail;refine tZ dp.out ?_;cases B;all_goals
       go_wp2_with fail;have sK:=HAL.out;simp[alQ]at sK;subst sK;refine(HCK.out _ (sZ.refl _)).mono ?_;rintro e' w13 ⟨he,Vy⟩;first|rw[show IL true=0 from rfl]at he|rw[show IL false=61 from rfl]at he
       subst he;go_wp2_with fail;refine(HRG.out w13 Vy).mono ?_;rintro e' w14 ⟨he,x14⟩;simp only[ym,uy,xy]at he;subst he;go_wp2_with fail;go_ret;exact⟨rfl,Ze.out _ _ Vy x14⟩
    ·rcases h with rfl|rfl;all_goals
      go_wp2_with fail;refine tZ dr.out ?_;cases F;all_goals
       go_wp2_with fail;have sK:=HAL.out;simp[alQ]at sK;subst sK;refine(HCK.out _ (sZ.refl _)).mono ?_;rintro e' w13 ⟨he,Vy⟩;first|rw[show IL true=0 from rfl]at he|rw[show IL false=61 from rfl]at he
       subst he;go_wp2_with fail;refine(HRG.out w13 Vy).mono ?_;rintro e' w14 ⟨he,x14⟩;simp only[ym,uy,xy]at he;subst he;go_wp2_with fail;go_ret;exact⟨rfl,Ze.out _ _ Vy x14⟩
    ·rcases h with rfl|rfl;all_goals
      go_wp2_with fail;refine tZ dp.out ?_;cases B with
      |false=>exact cd
      |true=>
       go_wp2_with fail;refine tZ dr.out ?_;cases F;all_goals
        go_wp2_with fail;have sK:=HAL.out;simp[alQ]at sK;subst sK;refine(HCK.out _ (sZ.refl _)).mono ?_;rintro e' w13 ⟨he,Vy⟩;first|rw[show IL true=0 from rfl]at he|rw[show IL false=61 from rfl]at he
        subst he;go_wp2_with fail;refine(HRG.out w13 Vy).mono ?_;rintro e' w14 ⟨he,x14⟩;simp only[ym,uy,xy]at he;subst he;go_wp2_with fail;go_ret;exact⟨rfl,Ze.out _ _ Vy x14⟩
    ·exact cd
def IX(a S:List Nd)(m:Int)(w:World)(g:uI w)(X:afu)(h:∀b,X b->b<w.heap.size)(A:aft)(n c:Nat)(rE:Int)(k:CQ w X A n a)(i:n<=9223372036854775807)(A':aft)(n' c':Nat)(d:Int)(l:CQ w X A' n' S)(j:n'<=9223372036854775807):Calls Tryz.prog 4 #[.agg #[.slice A n c,.int .i64 rE],.agg #[.slice A' n' c',.int .i64 d],.int .i64 m] w fun e w'=>e=.returned (.bool true)/\sZ w w':=IJ SN a S m w g X h A n c rE k i A' n' c' d l j
end
