import Derived.Test.YtccjlcadbpinfaaGreatDoorX21
import Derived.Test.YtccjlcadbpinfaaGreatDoorX22
import Derived.Defers
set_option linter.all false
set_option maxRecDepth 100000
set_option maxHeartbeats 16000000
namespace Go.Proofs.YtccjlcadbpinfaaGreatDoor.Tp
open ChangeShapes WideShapes ChangeAt RowKit
open Num Mem Can
section
variable(o e:Nat)(K M:Value)(g f:Nat)(lb:Array Value)(k:Nat)(l:List Int){w:World}{H r n c n' c':Nat}{a:Addr}{v:Value}{w':World}
def WU(k:Nat)(_:World)(_:afu)(cs:List Value)(y:List Value):Prop:=cs=y/\cs.length=k/\∀u∈cs,u.oneCell'=true
def EC:Way (WU k) k:=⟨fun h _ _=>h,fun h=>h.2.1,fun h=>h.2.2⟩
def Ag{k:Nat}{e:TypeId}{A:aft}{y:List Value}(h:uK (WU k) e k nS nS w H A n c [y])(g:0<k):∃a,A=some ⟨a,0,none⟩/\n=1/\H<=a/\a<w.heap.size/\∀q u,y[q]? =some u->w.cell? (rN a q)=some u/\w.frozen? (rN a q)=false:=by have v:n=1:=(h.len g).symm;obtain⟨b,i,j,z,_,l⟩:=h;obtain⟨a,m,o,t,p,B⟩:=Fm i j g V;have d:0<b.length:=V;have r:b[0]=y:=(l 0 d bA).1;refine⟨a,m,v,o,t,fun q u x=> ?_⟩;have:=(p 0 b[0] (rD d)).2 q u (by rw[r];exact x);exact eV
def Uz:(Tryz.prog.info? 101).map (fun i=>(i.zero,i.size,i.bytes))=some (some (.agg #[.string ⟨#[]⟩,.int .i64 0,.slice none 0 0]),3,48):=bm
def Vt(w:World):Calls Tryz.prog 17 #[] w fun e w'=>e=.returned (sg (w.heap.size+1))/\Bx w' (w.heap.size+1) [.slice none 0 0,.slice none 0 0,.map (some w.heap.size)]/\Below w.heap.size w w':=by have d:(Instr.makeMap 90 none).run Tryz.prog w=.ok (.map (some w.heap.size)) (w.alloc (.map #[] 0)):=rfl;have a:=((afw w).al rV (.map #[] 0)).alloc bA (.cells #[.slice none 0 0,.slice none 0 0,.map (some w.heap.size)] 94);have b:=a.Kj;go_enter Tryz.func17,Tryz.ntmps17;go_wp2_with fail;go_ret;exact⟨bA,b,a⟩
def Su(a name:afs)(m:Int)(b:aft)(g e:Nat)(d:Nat)(w:World)(h:w.cell? (rN d 0)=some (.string ⟨name.toArray⟩))(hb:d<w.heap.size):Calls Tryz.prog 89 #[.agg #[.string ⟨a.toArray⟩,.int .i64 m,.slice b g e],sg d] w (vh w (.bool (a==name))):=by have sK:=(afw w).al rV (.cells #[.string ⟨a.toArray⟩,.int .i64 m,.slice b g e] 101);have j:=(Bx.new w #[.string ⟨a.toArray⟩,.int .i64 m,.slice b g e] 101 w.heap.size rfl).c 0 _ rfl;have i:=sK.cl h hb;go_enter Tryz.func89,Tryz.ntmps89;exact nI
def Sj(A:aft)(c:Nat)(w:World):Calls Tryz.prog 88 #[.slice A 0 c,.func (.func f) #[] lb] w (zW w (.int .i64 (-1))):=by go_enter Tryz.func88,Tryz.ntmps88;exact ev
def Vs(k:∀args w,(callFunc f args).run Tryz.prog w=.ok (.enter f args) w)(lb:Array Value)(e:afs)(m:Int)(a:aft)(h b:Nat)(g c:Nat)(w:World)(l:w.cell? (rN g 0)=some (.string ⟨e.toArray⟩))(n:w.cell? (rN g 1)=some (.int .i64 m))(o:w.cell? (rN g 2)=some (.slice a h b))(d:Calls Tryz.prog f (#[.agg #[.string ⟨e.toArray⟩,.int .i64 m,.slice a h b]]++lb) w (vh w (.bool true))):Calls Tryz.prog 88 #[.slice (some ⟨g,0,none⟩) 1 c,.func (.func f) #[] lb] w (vh w (.int .i64 0)):=by
 go_enter Tryz.func88,Tryz.ntmps88;go_wp2_with fail;go_loopw [8] (fun j wr=>j=.int .i64 0/\w=wr) (fun _ _=>0);case atStart=>exact⟨rfl,rfl⟩
 case
  round=>
   obtain⟨rfl,rfl⟩:=hrel;go_wp2_with fail;refine sG d fun p i=> ?_
   clear d;go_wp2_with fail;go_ret;exact⟨rfl,i⟩
def O0(A:aft)(c:Nat)(d:afs)(w:World)(b:Bx w e [K,.slice A 0 c,M]):Calls Tryz.prog 45 #[sg e,.string ⟨d.toArray⟩] w (vh w (.pointer none)):=by have sK:=(afw w).al rV (.cells #[.string ⟨d.toArray⟩] 9);have g:=b.below sK b.CG;go_enter Tryz.func45,Tryz.ntmps45;go_upto_region 1 with fail;generalize w.alloc _=w1 at*;have s1:=g.c 1 _ rfl;have a:=Sj 89 #[sg w.heap.size] A c w1;go_wp2_with fail;refine tZ a ?_;clear a;exact bL
def Dr(c:Nat)(a:afs)(m:Int)(b:aft)(k d:Nat)(w:World)(j:Bx w o [K,.slice (some ⟨g,0,none⟩) 1 c,M])(q:w.cell? (rN g 0)=some (.string ⟨a.toArray⟩))(r:w.cell? (rN g 1)=some (.int .i64 m))(t:w.cell? (rN g 2)=some (.slice b k d))(i:g<w.heap.size):Calls Tryz.prog 45 #[sg o,.string ⟨a.toArray⟩] w (vh w (sg g)):=by
 have sK:=(afw w).al rV (.cells #[.string ⟨a.toArray⟩] 9);have n:=j.below sK j.CG;have B:=j.CG;have p:=(Bx.new w #[.string ⟨a.toArray⟩] 9 w.heap.size rfl).c 0 _ rfl;have v:=sK.s1;have y:=sK.cl q i;have z:=sK.cl r i;have A:=sK.cl t i;go_enter Tryz.func45,Tryz.ntmps45;go_upto_region 1 with fail;generalize w.alloc _=w1 at*;have x:w.heap.size<w1.heap.size:=V;clear v;have s1:=n.c 1 _ rfl;have e:=Su a a m b k d w.heap.size w1 p x;rw[show(a==a)=true from bA]at e;have l:=Vs 89 (enters_of Tryz.func89 bm rfl) #[sg w.heap.size] a m b k d g c w1 y z A e;clear e;go_wp2_with fail;refine sG l fun C Gu=> ?_
 clear l;have s1:=(n.below Gu V).c 1 _ rfl;exact dG
def FT(F:Nat)(xs:afs):Int×List Nd:=match C6 xs 100000 with
 |none=>(0,[])
 |some R=>if XY R=0 then(if G4 F (Qn R)=0 then(if vK (EZ F (Qn R))=0 then(0,EZ F (Qn R))else(vK (EZ F (Qn R)),[]))else(G4 F (Qn R),[]))else(XY R,[])
def Qr{b:Func}{p q:Tmp}(h:b.results= #[.cell p 32,.cell q 33]){a:Array Value}{w:World}{r s n c:Nat}{A:aft}{root e:Int}(hp:a.getD p undef=sg r)(hq:a.getD q undef=sg s)(k:Bx w r [.slice A n c,.int .i64 root])(l:Bx w s [.int .i64 e]):(results b a).run Tryz.prog w=.ok (.tuple #[.agg #[.slice A n c,.int .i64 root],.int .i64 e]) w:=by
 have i:a[p]?.getD undef=sg r:=gg;have j:a[q]?.getD undef=sg s:=fY;have d:(loadVar 32 ⟨r,0,none⟩).run Tryz.prog w=.ok (.agg #[.slice A n c,.int .i64 root]) w:=by obtain⟨m,o, -⟩:=k.LU;go_simp
 have g:(loadVar 33 ⟨s,0,none⟩).run Tryz.prog w=.ok (.int .i64 e) w:=by have m:=l.c 0 _ rfl;go_simp
 simp only[results,h];simp[uJ,Result.andThen,i,j,asAddr,d,g]
def Skp(w w':World)(X:afu)(r:Nat):Prop:=(∃A n c,w.cell? (rN r 0)=some (.slice A n c))/\w.cell? (rN r 2)=none/\∀q:Addr,X q.block->q≠⟨r,0,none⟩->w'.cell? q=w.cell? q
def Row.skip{X:afu}{r k n:Nat}{A:aft}{m:List (List Value)}(h:Row w X k A n m)(s:Skp w w' X r)(l:2<k\/∀cs∈m,∀A n c,cs[0]?≠some (.slice A n c)):Row w' X k A n m:=⟨h.len,fun y=>
 by
  obtain⟨g,p,x,q,d⟩:=h.pos y;refine⟨g,p,x,q,fun i cs b=>⟨(d i cs b).1,fun j u o=> ?_⟩⟩;rw[s.2.2 _ q ?_];·exact(d i cs b).2 j u o
  ·intro e;injection e with e1 e2 e3;obtain rfl:p=0:=V;have t:i*k=0:=V;obtain rfl:j=0:=V;rcases l with l|l;·have z:=(d i cs b).1;have a:=(d i cs b).2 2 (cs[2]' V) (rD V);rw[t,e1,s.2.1]at a;cases a
   ·obtain⟨A',n',c',v⟩:=s.1;have a:=(d i cs b).2 0 u o;rw[t,e1,v]at a;injection a with a;exact l cs (rU b) A' n' c' (by rw[o,a])⟩
def Le(l:List afs):∀cs∈uL l,∀A n c,cs[0]?≠some (.slice A n c):=fun cs h A n c=>by obtain⟨t,_,rfl⟩:=ti.1 h;simp[sv]
def aaa:∀cs∈xZ l,∀A n c,cs[0]?≠some (.slice A n c):=fun cs h A n c=>by obtain⟨t,_,rfl⟩:=ti.1 h;simp
def uq.skip{X:afu}{r:Nat}{cs:List Value}{j:J}(h:uq w X cs j)(s:Skp w w' X r):uq w' X cs j:=by
 induction h with
 |mk hr hl _ ZR hn Xy hc Xm ih=>exact .mk (hr.skip s (.inl V)) hl (fun i h a=>ih i h a) (ZR.skip s (.inr (Le _))) hn Xy hc Xm
def xu.skip{X:afu}{r n:Nat}{A:aft}{l:List Fd}(h:xu w X A n l)(s:Skp w w' X r):xu w' X A n l:=by
 obtain⟨a,b,d,e⟩:=h;refine⟨a,b.skip s (.inl V),d,fun i k m=> ?_⟩;have h:=e i k m;generalize a[i]=cs at h|-;generalize l[i]=f at h|-;cases h with
 |mk g j p o=>exact .mk (g.skip s (.inr (Le _))) j p (o.skip s)
def tJ.skip{X:afu}{r n:Nat}{A:aft}{l:List Nd}(h:tJ w X A n l)(s:Skp w w' X r):tJ w' X A n l:=by
 obtain⟨e,a,b,d⟩:=h;refine⟨e,a.skip s (.inl V),b,fun i p q=> ?_⟩;have h:=d i p q;generalize e[i]=cs at h|-;generalize l[i]=x at h|-;cases h with
 |mk a b d g j k m o t v y z=>exact .mk (a.skip s (.inr (Le _))) (b.skip s) (d.skip s (.inr (Le _))) (g.skip s (.inr (aaa _))) j k m o t v y z
def C8(h:w.cell? a=some v)(q:Addr):(w.setCell a v).cell? q=w.cell? q:=eR
def Yf{A A':aft}{u:Value}(h:Bx w r [.slice A n c,u])(X:afu):Skp w ((w.setCell ⟨r,0,none⟩ (.slice A' n' c')).setCell ⟨r,1,none⟩ u) X r:=by
 refine⟨⟨A,n,c,h.c 0 _ rfl⟩,?_,fun q _ a=> ?_⟩;·obtain⟨t,b⟩:=h;rw[AO w r 2 _ t (0,0) b];rfl
 ·rw[C8 ((h.set 0 _).c 1 _ rfl)];exact tg _ _ _ _ (fun e=>a e.symm)
end
section
variable{P:Program}{ops:Array Oper}{Q:Exit->Act->World->Prop}{K:Nat->World->World->Prop}
def Fp(d:Aq K){l:Nat}{a:Act}{w:World}(b:sA)(mk:List Nat)(j:P.follows .mixedOrders=true)(k:Region.noSelect ops=true)(i:b.deep<=ops.size)(g:AG ops mk b (Array.replicate ops.size false)=true)(h:∀wd:World,Below w.heap.size w wd->wd.heap.size=w.heap.size->wY P ops (fun e a w=>(∀c,e≠Exit.panic c)/\Q e a w) mk K b 0 a wd):(Code.region l ops true).wp P Q a w:=Code.wp_mono (fun _ _ _ h=>h.2) (sR d b mk j k i g (fun c _ _ _ _ h=>absurd rfl (h.1 c)) h)
end
def wy{w b e:World}{r:Nat}(h:sZ w b)(a:sa r b.heap.size b e)(g:w.heap.size<=r):sZ w e:=⟨sn h.1 a.size,fun q d=>(a.block q (rS d h.1) V).trans (h.2 q d),a.env.1.trans h.env.1,a.env.2.2.trans h.env.2⟩
def Fa(a b:Nat)(e:Int)(i:e≠0)(A:aft)(n c:Nat)(root:Int)(u:FrameMode)(w:World)(d:Bx w a [.slice A n c,.int .i64 root])(g:Bx w b [.int .i64 e]):CallsD Tryz.prog 24 #[sg b,sg a] u w fun r j w'=>j=u/\(r=.returned (.tuple #[])/\w'=(w.setCell ⟨a,0,none⟩ (.slice none 0 0)).setCell ⟨a,1,none⟩ (.int .i64 0)):=by have l:(e==0)=false:=rA.2 i;have m:=g.c 0 _ rfl;obtain⟨s0,s1,k⟩:=d.LU;exact oU
def Uc(b a:Nat)(u:FrameMode)(w:World)(d:Bx w a [.int .i64 0]):CallsD Tryz.prog 24 #[sg a,sg b] u w fun r e w'=>e=u/\(r=.returned (.tuple #[])/\w'=w):=by have g:=d.c 0 _ rfl;exact oU
def Dm{w:World}{p:Addr->Prop}{a:Addr}{v:Value}(h:w.cell? a=some v):Kc p 0 w (w.setCell a v):=fun q _=>eR
def I5(F:Nat)(xs:afs)(R:Except Int J)(bp:C6 xs 100000=some R)(ck:yF (Qn R))(d7:SizeOf.sizeOf (Qn R)<F)(A:aft)(n c B:Nat)(w:World)(bn:uI w)(dp:Rd w B A n xs)(d6:B<=w.heap.size)(df:n<=100000000)(di:n<=c):Calls Tryz.prog 7 #[.slice A n c] w (Zl w (FT F xs).2 (FT F xs).1):=by
 have e4:∀(c9:Fn)(first cap:Array Value)(w:World),(Instr.makeFunc c9 first cap).run Tryz.prog w=.ok (.func c9 first cap) w:=fun _ _ _ _=>rfl
 obtain⟨b6,o⟩:=sW (FT F xs);rw[<-o];unfold FT at o;rw[bp]at o;dsimp only at o;have aU:=fun w'(hb:Below w.heap.size w w')=>QW A n c B 100000 xs w' R bp V (dp.sV hb d6) eT df di
 generalize Qn R=j at*;generalize XY R=I at*;have N:=rz o;have cR:=rz aU;clear o aU bp;have af:=((afw w).al rV (FX none 0 0)).al rV (.cells #[.int .i64 0] 33);have S1:=af.I8;have c3:=af.Kj;have ds:=af.s2;go_enter_defers Tryz.func7,Tryz.ntmps7;go_upto_region 1 with fail;generalize(w.alloc _).alloc _=w1 at*;have e5:w.heap.size+2<=w1.heap.size:=V;clear ds;have aU:=cR.out w1 af;go_wp2_with fail;refine aU.mono ?_;rintro e1 W ⟨k,i,t,Z,a6,c1,a0,a7,c2,rfl,d9,b8⟩;clear aU;have e7:=b8.size;have cz:=af.sY rV b8;have a4:=(afw W).al rV (jc k i t Z a6 c1 a0 a7 c2);have c4:=a4.yg;have e6:=a4.l1;have b1:=(c3.below b8 V).below a4 V;have c5:=(S1.below b8 V).below a4 V;have b2:=b1.set 0 (.int .i64 I);simp only[rC]at b2;have a1:sa (w.heap.size+1) (W.alloc (jc k i t Z a6 c1 a0 a7 c2)).heap.size (W.alloc (jc k i t Z a6 c1 a0 a7 c2)) ((W.alloc (jc k i t Z a6 c1 a0 a7 c2)).setCell ⟨w.heap.size+1,0,none⟩ (.int .i64 I)):=(sa.refl _ _ _).setAt 0 _;have c6:=c5.off a1 V V;have cS:=c4.off a1 V V;have e8:=a1.size;have bO:Below w.heap.size w ((W.alloc (jc k i t Z a6 c1 a0 a7 c2)).setCell ⟨w.heap.size+1,0,none⟩ (.int .i64 I)):=(cz.sY rV a4).trans (a1.below V V);have dd:=(d9.stay a4 (fun b hb=>hb.2)).xh (hb:=a1) (fun b hb=>⟨V,V⟩);have y0:=b1.c 0 _ rfl;have E:=b1.f;go_upto_region 3 with fail;generalize(W.alloc _).setCell _ _=cy at*;clear y0 E c3 S1 b1 c5 c4 a1;have cv:sZ w cy:=sZ.below bO;have c7:=b2.c 0 _ rfl;by_cases b9:I=0
 ·subst b9;have o:=N.out;rw[rG rfl]at o;have cc:=QJ F j d7 ck.small cy (bn.below bO) _ k i t Z a6 c1 a0 a7 c2 dd bP;have ch:=Jm F j ck [] [] 0;generalize cb:G4 F j=y at*;generalize bk:EZ F j=M at*;have dj:y≠0->M=[]:=fun h=>by rw[<-bk,EZ,rB (by rw[cb];exact h)]
  have br:∀x∈M,EH x:=fun x L=>
   by
    rw[<-bk]at L;unfold EZ at L;split at L;·exact ch x L
    ·cases L
  have N:=rz o;clear o cb bk ch;obtain⟨d1,d2,d3,d4,d5, -⟩:=cS.xe;go_wp2_with fail;refine cc.mono ?_;rintro e2 p ⟨g,l,r,rfl,ci,dx,be⟩;clear cc d1 d2 d3 d4 d5 c7;have e9:=be.1;have e0:=cv.trans be;have b7:=c6.AA (be.2 _ V);have b3:=b2.AA (be.2 _ V);have a3:=(b7.set 0 (.slice g l r)).set 1 (.int .i64 0);simp only[rC,rF]at a3;have b4:sa w.heap.size p.heap.size p ((p.setCell ⟨w.heap.size,0,none⟩ (.slice g l r)).setCell ⟨w.heap.size,1,none⟩ (.int .i64 0)):=((sa.refl _ _ _).setAt 0 _).setAt 1 _;have U:=b3.off b4 V V;have dz:=b4.size;have a8:=wy e0 b4 rV;have b0:=ci.skip (Yf (A':=g) (n':=l) (c':=r) b7 (fun b=>b<p.heap.size));obtain⟨y0,y1,E⟩:=b7.LU;have y3:=b3.c 0 _ rfl;have G:=b3.f;have ab:=U.set 0 (.int .i64 y);simp only[rC]at ab;have bs:y=0->tJ (((p.setCell ⟨w.heap.size,0,none⟩ (.slice g l r)).setCell ⟨w.heap.size,1,none⟩ (.int .i64 0)).setCell ⟨w.heap.size+1,0,none⟩ (.int .i64 y)) (fun b=>b<p.heap.size) g l M:=fun h=>by subst h;exact b0.keep (fun q _=>C8 (U.c 0 _ rfl) q) ug
  have b5:sa (w.heap.size+1) ((p.setCell ⟨w.heap.size,0,none⟩ (.slice g l r)).setCell ⟨w.heap.size,1,none⟩ (.int .i64 0)).heap.size ((p.setCell ⟨w.heap.size,0,none⟩ (.slice g l r)).setCell ⟨w.heap.size,1,none⟩ (.int .i64 0)) (((p.setCell ⟨w.heap.size,0,none⟩ (.slice g l r)).setCell ⟨w.heap.size,1,none⟩ (.int .i64 0)).setCell ⟨w.heap.size+1,0,none⟩ (.int .i64 y)):=(sa.refl _ _ _).setAt 0 _;have ad:=a3.off b5 V V;have cp:=b5.size;have cx:=wy a8 b5 V;go_upto_region 6 with fail;generalize((p.setCell _ _).setCell _ _).setCell _ _=bx at*;clear b4 b5 b7 b3 ci b0 a3 U a8 y0 y1 E y3 G;have a3:=ad;have U:=ab;have a8:=cx;have dz:p.heap.size<=bx.heap.size:=V;clear ad ab cx cp;have c8:=U.c 0 _ rfl;by_cases an:y=0
  ·have b0:=bs an;subst an;have o:=N.out;rw[rG rfl]at o;have cj:TD M:=⟨fun x L=>(br x L).sm,fun x L f d8=>((br x L).fields f d8).sL.smi⟩;have e3:=bn.two;have cf:∀X,sZ w X->uI X:=fun X h=>yw bn (fun b hb=>h.2 b V)
   have az:=fun X(h:Below bx.heap.size bx X)=>IY M cj X (cf X (a8.trans (sZ.below h))) (fun b=>b<p.heap.size) g l r (b0.below h bP) (fun b hb=>by have:=h.size;omega) V
   generalize vK M=T at*;have N:=rz o;have cE:=rz az;clear o az cf cj br dj bs;go_upto_region 8 with fail;clear c8;refine Fp (K:=Kc (fun q=>q.block=w.heap.size)) (Kc.keeps _) (sA.of [0,1,2,3,4] .nil) [2,3,4] bm bm bF bm (fun wd d tj=> ?_);clear tj;have cs:=d.size;have S:=a3.below d V;have H:=U.below d V;have aa:=a8.trans (sZ.below d);have Rd:=b0.below d bP;have az:=cE.out wd d;obtain⟨y0,y1,E⟩:=S.LU;repeat((first|(refine tp rfl rfl rfl bo ?_)|(refine tF rfl rfl rfl ?_)|(refine tA rfl rfl rfl 0 rV _ (by intro w' hb;have y0:=(hb ⟨w.heap.size,0,none⟩ (by simp)).trans y0;have y1:=(hb ⟨w.heap.size,1,none⟩ (by simp)).trans y1;clear hb;go_simp;first|done|with_reducible rfl) ?_));simp only[Act.put,rH,rC,rF])
   refine se rfl rfl 0 rV (fun a2 a=> ?_);go_wp2_with fail;refine sG az fun bj a5=> ?_
   clear az;go_wp2_with fail;refine a _ _ (fun q bd=>a5.cell (by rw[bd];omega)) ?_;clear a y0 y1 E;have cp:=a5.size;have ad:=S.below a5 V;have ab:=H.below a5 V;have cA:=aa.trans (sZ.below a5);have cW:=Rd.below a5 bP;obtain⟨y0,y1,E⟩:=ad.LU;refine aO ?_;have D:=ad.set 0 (.slice g l r);have O:=D.set 1 (.int .i64 0);simp only[rC,rF]at D O;have bv:=fun q=>C8 y0 q
   have bw:=fun q=>C8 (D.c 1 _ rfl) q
   have C:sa w.heap.size bj.heap.size bj ((bj.setCell ⟨w.heap.size,0,none⟩ (.slice g l r)).setCell ⟨w.heap.size,1,none⟩ (.int .i64 0)):=((sa.refl _ _ _).setAt 0 _).setAt 1 _;have z:=ab.off C V V;refine se rfl rfl 0 rV (fun a2 a=> ?_);go_wp2_with fail;refine a _ _ (fun q _=>(bw q).trans (bv q)) ?_;clear a;have cr:=C.size;have a9:=wy cA C rV;have cZ:=cW.keep (Y:=fun b=>b<p.heap.size) (fun q _=>(bw q).trans (bv q)) ug;generalize(bj.setCell _ _).setCell _ _=m at*;clear y0 y1 E bv bw;have y3:=z.c 0 _ rfl;have G:=z.f;refine aO ?_;have Ec:=z.set 0 (.int .i64 T);simp only[rC]at Ec;have v:sa (w.heap.size+1) m.heap.size m (m.setCell ⟨w.heap.size+1,0,none⟩ (.int .i64 T)):=(sa.refl _ _ _).setAt 0 _;have Sc:=O.off v V V;have Bc:=wy a9 v V;have d0:T=0->tJ (m.setCell ⟨w.heap.size+1,0,none⟩ (.int .i64 T)) (fun b=>b<p.heap.size) g l M:=fun h=>by subst h;exact cZ.keep (fun q _=>C8 y3 q) ug
   have ct:=v.size;refine se rfl rfl 0 rV (fun a2 a=> ?_);go_wp2_with fail;refine a _ _ (fun q bd=>v.cell (by rw[bd];omega) (by rw[bd];omega)) ?_;clear a;generalize m.setCell _ _=wf at*;clear y3 G;refine aO ?_;refine sF ⟨fun c h=>dM,?_⟩;go_wp2_with fail;by_cases ar:T=0
   ·have hrr:b6=(0,M):=by rw[N.out];simp[ar]
    have dr:=d0 ar;subst ar;refine WK (f:=24) (args:= #[sg (w.heap.size+1),sg w.heap.size]) bA (by simp[go_sem]) ?_;refine(Uc w.heap.size (w.heap.size+1) _ _ Ec).mono ?_;rintro e u' w'' ⟨rfl,rfl,rfl⟩;rw[hrr];exact⟨_,Qr rfl rfl rfl Sc Ec,g,l,r,rfl,dr.keep (fun _ _=>rfl) bP,dx,Bc⟩
   ·have hrr:b6=(T,[]):=by rw[N.out];simp[ar]
    refine WK (f:=24) (args:= #[sg (w.heap.size+1),sg w.heap.size]) bA (by simp[go_sem]) ?_;refine(Fa w.heap.size (w.heap.size+1) T ar _ _ _ _ _ _ Sc Ec).mono ?_;exact mh
  ·have bz:(y !=0)=true:=by simp[an]
   have hrr:b6=(y,[]):=by rw[N.out];simp[an]
   clear bs;go_upto_region 7 with fail;clear c8 bz;refine Fp (K:=Kc (fun q=>q.block=w.heap.size\/q.block=w.heap.size+1)) (Kc.keeps _) (sA.of [0,1,2,3] .nil) [2,3] bm bm bF bm (fun wd d tj=> ?_);have cs:=d.size;have S:=a3.below d V;have H:=U.below d V;have aa:=a8.trans (sZ.below d);clear tj;obtain⟨y0,y1,E⟩:=S.LU;have y3:=H.c 0 _ rfl;have G:=H.f;refine bb ?_;have D:=(S.set 0 (.slice g l r));have O:=D.set 1 (.int .i64 0);simp only[rC,rF]at D O;have C:sa w.heap.size wd.heap.size wd ((wd.setCell ⟨w.heap.size,0,none⟩ (.slice g l r)).setCell ⟨w.heap.size,1,none⟩ (.int .i64 0)):=((sa.refl _ _ _).setAt 0 _).setAt 1 _;have z:=H.off C V V;refine se rfl rfl 0 rV (fun a2 a=> ?_);go_wp2_with fail;refine a _ _ ((Kc.keeps _).trans (Dm y0) (Dm (D.c 1 _ rfl))) ?_;clear a;have cr:=C.size;have a9:=wy aa C rV;generalize(wd.setCell _ _).setCell _ _=m at*;clear y0 y1 y3 E G;have y3:=z.c 0 _ rfl;have G:=z.f;refine aO ?_;refine se rfl rfl 0 rV (fun a2 a=> ?_);go_wp2_with fail;refine a _ _ (Dm y3) ?_;clear a;have Ec:=z.set 0 (.int .i64 y);simp only[rC]at Ec;have v:sa (w.heap.size+1) m.heap.size m (m.setCell ⟨w.heap.size+1,0,none⟩ (.int .i64 y)):=(sa.refl _ _ _).setAt 0 _;have Sc:=O.off v V V;have Bc:=wy a9 v V;have ct:=v.size;generalize m.setCell _ _=wf at*;clear y3 G;refine aO ?_;refine sF ⟨fun c h=>dM,?_⟩;go_wp2_with fail;refine WK (f:=24) (args:= #[sg (w.heap.size+1),sg w.heap.size]) bA (by simp[go_sem]) ?_;refine(Fa w.heap.size (w.heap.size+1) y an _ _ _ _ _ _ Sc Ec).mono ?_;exact mh
 ·have bz:(I !=0)=true:=by simp[b9]
  have hrr:b6=(I,[]):=by rw[N.out,rB b9]
  go_upto_region 4 with fail;clear c7 bz;refine Fp (K:=Kc (fun q=>q.block=w.heap.size\/q.block=w.heap.size+1)) (Kc.keeps _) (sA.of [0,1,2,3] .nil) [2,3] bm bm bF bm (fun wd d tj=> ?_);have cs:=d.size;have S:=c6.below d V;have H:=b2.below d V;have aa:=cv.trans (sZ.below d);clear tj;obtain⟨y0,y1,E⟩:=S.LU;have y3:=H.c 0 _ rfl;have G:=H.f;refine bb ?_;have D:=(S.set 0 (.slice none 0 0));have O:=D.set 1 (.int .i64 0);simp only[rC,rF]at D O;have C:sa w.heap.size wd.heap.size wd ((wd.setCell ⟨w.heap.size,0,none⟩ (.slice none 0 0)).setCell ⟨w.heap.size,1,none⟩ (.int .i64 0)):=((sa.refl _ _ _).setAt 0 _).setAt 1 _;have z:=H.off C V V;refine se rfl rfl 0 rV (fun a2 a=> ?_);go_wp2_with fail;refine a _ _ ((Kc.keeps _).trans (Dm y0) (Dm (D.c 1 _ rfl))) ?_;clear a;have cr:=C.size;have a9:=wy aa C rV;generalize(wd.setCell _ _).setCell _ _=m at*;clear y0 y1 y3 E G;have y3:=z.c 0 _ rfl;have G:=z.f;refine aO ?_;refine se rfl rfl 0 rV (fun a2 a=> ?_);go_wp2_with fail;refine a _ _ (Dm y3) ?_;clear a;have Ec:=z.set 0 (.int .i64 I);simp only[rC]at Ec;have v:sa (w.heap.size+1) m.heap.size m (m.setCell ⟨w.heap.size+1,0,none⟩ (.int .i64 I)):=(sa.refl _ _ _).setAt 0 _;have Sc:=O.off v V V;have Bc:=wy a9 v V;have ct:=v.size;generalize m.setCell _ _=wf at*;clear y3 G;refine aO ?_;refine sF ⟨fun c h=>dM,?_⟩;go_wp2_with fail;refine WK (f:=24) (args:= #[sg (w.heap.size+1),sg w.heap.size]) bA (by simp[go_sem]) ?_;refine(Fa w.heap.size (w.heap.size+1) I b9 _ _ _ _ _ _ Sc Ec).mono ?_;exact mh
def Yw{t:afs}(h:t.length<=1000000):yF (jT t):=Lo 4 0 t h V V
def aaJ{l:List afs}(h:∀t∈l,t.length<=1000000):yF (BY l):=Lp _ fun x b=>by obtain⟨t,a,rfl⟩:=ti.1 b;exact Yw (h t a)
def FJ(k:Int):(tI k).length<=1000000:=by
 unfold tI;split;·simp
 ·have:∀l∈ux,l.length<=1000000:=bH;rw[List.getD_eq_getElem?_getD];cases h:ux[k.toNat]? with
  |none=>simp
  |some l=>exact this l (rU h)
def yj{a:Type}{b:Bool}{x y:a}(h:y∈opt b x):y=x:=by
 unfold opt at h;split at h;·exact sJ.1 h
 ·cases h
def GB{a d:Type}(b:Bool)(x:a)(y:d):(opt b x).length=(opt b y).length:=by unfold opt;split<;>rfl
def RQ(l:afs):(vU l).length<=l.length:=by unfold vU;have a:=(List.takeWhile_sublist (p:=fun x:UInt8=>x !=46) (l:=l.reverse)).length_le;simp only[xP]at a|-;exact a
def C4{ks:List afs}:(∀k∈ks,k=vi\/k=tC\/k=tz\/k=sS\/k=uM\/k=ui\/k=tY\/k=xp\/k=uW\/k=wP)->∀k∈ks,k.length<=1000000:=fun h k a=>by rcases h k a with rfl|rfl|rfl|rfl|rfl|rfl|rfl|rfl|rfl|rfl<;>decide
structure GoS(S:List Nd):Prop where
 nd:∀x∈S,EH x
 sz:∀x∈S,x.kind=14->0<=x.size/\x.size<=1000
def Wn{d:Nat->Sh->J×Sh}(h:∀a st,yF (d a st).1):∀(l:List Int)(st:Sh),∀x∈(AJ d l st).1,yF x
 | [],_,x,b=>by cases b
 |k::r,st,x,b=>
 by
  simp only[AJ]at b;rcases sD.1 b with rfl|b;·exact h _ _
  ·exact Wn h r _ x b
def aaL{g:Nat->Sh->J×Sh}(h:∀a st,yF (g a st).1)(f:Fd)(e:GoF f)(st:Sh):yF (EM g f st).1:=by
 unfold EM;refine It _ _ (fun x d=> ?_) (C4 fun k b=> ?_) ?_
 ·simp only[sI,sD,uT,CI]at d;rcases d with((rfl|rfl)|d)|d;·exact Yw e.name
  ·exact h _ _
  ·rw[yj d];exact aaJ e.alias
  ·rw[yj d];exact e.sL
 ·simp only[sI,sD,uT,CI]at b;rcases b with((rfl|rfl)|b)|b;·simp
  ·simp
  ·rw[yj b];simp
  ·rw[yj b];simp
 ·simp only[rL,rP,sl,GB _ tz (BY f.aliases),GB _ sS f.sL]
def QG{e:Nat->Sh->J×Sh}(h:∀a st,yF (e a st).1):∀(l:List Fd),(∀f∈l,GoF f)->∀(st:Sh),∀x∈(vC e l st).1,yF x
 | [],_,_,x,b=>by cases b
 |f::r,d,st,x,b=>
 by
  simp only[vC]at b;rcases sD.1 b with rfl|b;·exact aaL h f (d f bA) st
  ·exact QG h r (fun f g=>d f (by simp[g])) _ x b
def acn{x:Nd}(d:EH x):(∀y∈AF x,yF y)/\(∀k∈BH x,k=vi\/k=tC\/k=tz\/k=sS\/k=uM\/k=ui\/k=tY\/k=xp\/k=uW\/k=wP)/\(BH x).length=(AF x).length:=by
 refine⟨fun y b=> ?_,fun k a=> ?_,?_⟩
 ·unfold AF at b;simp only[sI,sD,uT,CI]at b;rcases b with(rfl|rfl|rfl)|b;·exact Yw (FJ _)
  ·exact Yw (by have:=RQ x.name;have:=d.name;omega)
  ·exact Yw (by have:=Fy x.name;have:=d.name;omega)
  ·rw[yj b];exact aaJ d.alias
 ·unfold BH at a;simp only[sI,sD,uT,CI]at a;rcases a with(rfl|rfl|rfl)|a;·simp
  ·simp
  ·simp
  ·rw[yj a];simp
 ·unfold BH AF;simp only[rL,rP,sl,GB _ tz (BY x.aliases)]
def aaM{g:Nat->Sh->J×Sh}(h:∀a st,yF (g a st).1)(x:Nd)(d:EH x)(l:0<=x.size/\x.size<=1000\/x.kind=9\/x.kind=10)(st:Sh):yF (MV g x st).1:=by
 obtain⟨e,h2,h3⟩:=acn d;unfold MV;split
 ·refine It _ _ (fun y b=> ?_) (C4 fun k hk=> ?_) ?_
  ·rcases sI.1 b with b|b;·exact e y b
   ·rw[sJ.1 b];exact Lp _ (QG h _ d.fields _)
  ·exact ja
  ·exact ll
 ·split
  ·refine It _ _ (fun y b=> ?_) (C4 fun k hk=> ?_) ?_
   ·simp only[sI,sJ]at b;rcases b with(b|rfl)|b;·exact e y b
    ·exact aaJ d.symbols
    ·rw[yj b];exact Yw d.sL
   ·simp only[sI,sJ]at hk;rcases hk with(hk|rfl)|hk;·exact h2 k hk
    ·simp
    ·rw[yj hk];simp
   ·simp only[rL,rP,sl,h3,GB _ sS (jT x.sL)]
  ·rename_i j i;refine It _ _ (fun y b=> ?_) (C4 fun k hk=> ?_) ?_
   ·rcases sI.1 b with b|b;·exact e y b
    ·rw[sJ.1 b];exact Lo 3 _ [] bA V V
   ·exact ja
   ·exact ll
def Wo{S:List Nd}(d:GoS S):∀(f:Nat)(ar:afs)(a:Nat)(st:Sh),yF (xS S f ar a st).1
 |0,_,_,_=>GL
 |f+1,ar,a,st=>
 by
  have e:=fun ar a st=>Wo d f ar a st
  unfold xS;cases o:S[a]? with
  |none=>exact GL
  |some x=>
   have l:=rU o;have i:=d.nd x l;simp only;split;·exact Yw (FJ _)
   ·split
    ·rename_i b;split;·exact Yw i.name
     ·refine aaM (e _) x i ?_ _;have:=Za b;by_cases h:x.kind=9;·exact .inr (.inl h)
      by_cases g:x.kind=10;·exact .inr (.inr g)
      have n:x.kind=14:=by unfold sr at b;simp[h,g]at b;exact b
      exact .inl (d.sz x l n)
    ·split;·exact Lp _ (Wn (e ar) _ _)
     ·refine It _ _ (fun y m=> ?_) (C4 fun k j=> ?_) rfl
      ·simp only[sD,uT,CI]at m;rcases m with rfl|rfl;·exact Yw (FJ _)
       ·exact e _ _ _
      ·simp only[sD,uT,CI]at j;rcases j with rfl|rfl;·simp
       ·split<;>simp
def ZH{S:List Nd}(h:ur S 0=true)(b:∀x∈S,EH x):GoS S:=⟨b,fun x e d=>by have a:=(BQ ((v7 h).2 x e)).1;unfold kindOk at a;rw[rB V,rB V,rG d]at a;simp only[rO,sd]at a;exact a⟩
def GK{S:List Nd}(a:∀x∈S,EH x):yF (uZ S 0):=by
 unfold uZ;split;·rename_i h;have b:ur S 0=true:=la;exact Wo (ZH b a) _ _ _ _
 ·exact GL
def Hm{M:Int}:∀(l:List J)(n:Int),n<=M->(∀x∈l,1+um x<=M)->AD l n<=M
 | [],n,h,_=>by simpa[AD]using h
 |x::r,n,h,a=>by unfold AD;exact Hm r _ (by have:=a x bA;omega) (fun y b=>a y (by simp[b]))
def AT{M:Int}{j:J}(a:1<=M)(h:∀x∈j.items,1+um x<=M):um j<=M:=by
 cases j with
 |mk k i t l ks=>
  unfold um;split;·exact Hm l 1 a h
  ·omega
def Ob:∀(N:Nat)(j:J),SizeOf.sizeOf j<=N->∀d:Nat,d<=32->ue j d=true->um j<=33-(d:Int):=by
 intro N;induction N with
 |zero=>exact fq
 |succ N g=>
  intro j hj d m h;cases j with
  |mk k i t l ks=>
   unfold ue at h;simp only[rO,xt,IE,Bool.or_eq_false_iff,xY]at h;obtain⟨⟨_,a⟩,hl⟩:=h;unfold um;split
   ·rename_i n;have b:d+1<=32:=by
     rcases a with a|a;·omega
     ·omega
    refine Hm l 1 V (fun x hx=> ?_);rw[AI]at hl;have e:ue x (d+1)=true:=gP;have o:=wX hx;simp only[J.mk.sizeOf_spec]at hj;have:=g x V (d+1) b e;omega
   ·omega
structure DpS(S:List Nd):Prop where df:∀x∈S,∀f∈x.fields,um f.sL<=33
def dT(t:afs):um (jT t)=0:=by simp[jT,um]
def dTs(l:List afs):um (BY l)<=1:=AT V fun x a=>by obtain⟨t,_,rfl⟩:=ti.1 a;rw[dT];omega
def Ug{d:Nat->Sh->J×Sh}{M:Int}(h:∀a st,um (d a st).1<=M):∀(l:List Int)(st:Sh),∀x∈(AJ d l st).1,um x<=M
 | [],_,x,b=>by cases b
 |k::r,st,x,b=>
 by
  simp only[AJ]at b;rcases sD.1 b with rfl|b;·exact h _ _
  ·exact Ug h r _ x b
def ZC{d:Nat->Sh->J×Sh}{M:Int}(e:33<=M)(h:∀a st,um (d a st).1<=M)(f:Fd)(g:um f.sL<=33)(st:Sh):um (EM d f st).1<=M+1:=by
 unfold EM;refine AT V (fun x b=> ?_);change x∈ [jT f.name,(d f.type.toNat st).1]++opt (tK f.aliases) (BY f.aliases)++opt f.has f.sL at b;simp only[sI,sD,uT,CI]at b;rcases b with((rfl|rfl)|b)|b;·rw[dT];omega
 ·have:=h f.type.toNat st;omega
 ·rw[yj b];have:=dTs f.aliases;omega
 ·rw[yj b];omega
def PW{g:Nat->Sh->J×Sh}{M:Int}(d:33<=M)(h:∀a st,um (g a st).1<=M):∀(l:List Fd),(∀f∈l,um f.sL<=33)->∀(st:Sh),∀x∈(vC g l st).1,um x<=M+1
 | [],_,_,x,b=>by cases b
 |f::r,e,st,x,b=>
 by
  simp only[vC]at b;rcases sD.1 b with rfl|b;·exact ZC d h f (e f bA) st
  ·exact PW d h r (fun f i=>e f (by simp[i])) _ x b
def abD(x:Nd):∀y∈AF x,um y<=1:=fun y a=>
 by
  unfold AF at a;simp only[sI,sD,uT,CI]at a;rcases a with(rfl|rfl|rfl)|a;·rw[dT];omega
  ·rw[dT];omega
  ·rw[dT];omega
  ·rw[yj a];exact dTs _
def ZD{d:Nat->Sh->J×Sh}{M:Int}(g:33<=M)(h:∀a st,um (d a st).1<=M)(x:Nd)(i:∀f∈x.fields,um f.sL<=33)(st:Sh):um (MV d x st).1<=M+3:=by
 have e:=abD x;unfold MV;split
 ·refine AT V (fun y b=> ?_);change y∈AF x++[jL (vC d x.fields st).1]at b;rcases sI.1 b with b|b;·have:=e y b;omega
  ·rw[sJ.1 b];have:=AT (M:=M+2) (j:=jL (vC d x.fields st).1) V (fun z k=>by have:=PW g h x.fields i st z k;omega);omega
 ·split
  ·refine AT V (fun y b=> ?_);change y∈AF x++[BY x.symbols]++opt x.has (jT x.sL)at b;simp only[sI,sJ]at b;rcases b with(b|rfl)|b;·have:=e y b;omega
   ·have:=dTs x.symbols;omega
   ·rw[yj b,dT];omega
  ·refine AT V (fun y b=> ?_);change y∈AF x++[jN x.size]at b;rcases sI.1 b with b|b;·have:=e y b;omega
   ·rw[sJ.1 b];have:um (jN x.size)=0:=by simp[jN,um]
    omega
def Uh{S:List Nd}(e:DpS S):∀(f:Nat)(ar:afs)(a:Nat)(st:Sh),um (xS S f ar a st).1<=33+3*(f:Int)
 |0,_,_,_=>by simp[xS,J.zero,um]
 |f+1,ar,a,st=>
 by
  have d:=fun ar a st=>Uh e f ar a st
  unfold xS;cases g:S[a]? with
  |none=>simp[J.zero,um];omega
  |some x=>
   have i:=rU g;simp only;split;·simp only[dT];omega
   ·split
    ·split;·simp only[dT];omega
     ·have:=ZD V (d (sO x.name)) x (e.df x i) (st.1.set a true,st.2||x7 x);omega
    ·split;·have:=AT (M:=34+3*(f:Int)) (j:=jL (AJ (xS S f ar) x.rX st).1) V (fun z k=>by have:=Ug (d ar) x.rX st z k;omega);exact Int.le_trans this V
     ·refine AT V (fun y b=> ?_);change y∈ [jT (tI x.kind),(xS S f ar x.items.toNat st).1]at b;simp only[sD,uT,CI]at b;rcases b with rfl|rfl;·rw[dT];omega
      ·have:=d ar x.items.toNat st;omega
def Gk{j:J}(h:BV j J.zero=true):um j<=33:=by rw[JG h];simp[J.zero,um]
def ZE{S:List Nd}(h:ur S 0=true):DpS S:=⟨fun x j f g=>
 by
  have e:=BQ ((v7 h).2 x j);have i:=CT e.2 (Bh g);have a:=e.1;unfold kindOk at a;rw[rG i]at a;unfold yO at a;rw[rO]at a;have b:=wG.1 a.1 f g;unfold Cd at b;rw[rO]at b;have d:=b.2;split at d;·have:=Ob _ f.sL rV 0 V d;omega
  ·exact Gk d⟩
def Je(S:List Nd):um (uZ S 0)<=1000000:=by
 unfold uZ;split;·rename_i h;have a:ur S 0=true:=la;have:=Uh (ZE a) 34 [] 0 (List.replicate S.length false,false);unfold AK;omega
 ·simp[J.zero,um]
def U6(n:Int):1<=(zZ n).length:=by
 unfold zZ;rw[rL,xP];have:1<=(vB 20 n.natAbs).length:=by unfold vB;split<;>simp
 omega
def OV(t:afs):2<=(sB t).length:=by unfold sB;simp
def aaC:∀(N:Nat)(j:J),SizeOf.sizeOf j<=N->∀d:Nat,ue j d=true->Qz j<=4*(xb j).length:=by
 intro N;induction N with
 |zero=>exact fq
 |succ N B=>
  intro j hj d h;cases j with
  |mk k i t l ks=>
   unfold ue at h;simp only[rO]at h;obtain⟨⟨⟨hb,e⟩,_⟩,hl⟩:=h;rw[AI]at hl;simp only[J.mk.sizeOf_spec]at hj;have v:∀x∈l,Qz x<=4*(xb x).length:=fun x hx=>by have C:=wX hx;refine B x V (d+1) ?_;exact gP
   have z:∀l:List J,(∀x∈l,Qz x<=4*(xb x).length)->LB l+3*l.length<=4*(xc l).length:=by
    intro l;induction l with
    |nil=>intro _;simp[LB,xc]
    |cons x r m=>intro h;have a:=h x bA;have b:=m (fun y g=>h y (by simp[g]));simp only[LB,xc,rP,rL];omega
   have A:∀(l:List J)(ks:List afs),ks.length=l.length->(∀x∈l,Qz x<=4*(xb x).length)->LB l+3*l.length<=4*(wT l ks).length:=by
    intro l;induction l with
    |nil=>intro ks _ _;simp[LB,wT]
    |cons x r m=>
     intro ks hk h;cases ks with
     |nil=>simp at hk
     |cons k ks=>have a:=h x bA;have b:=m ks ki (fun y g=>h y (by simp[g]));simp only[LB,wT,rP,rL];omega
   have D:l.length=0->LB l=0:=fun h=>by rw[rT h];rfl
   by_cases a:k=1;·subst a;simp[Aa]at hb;simp[Qz,xb,hb,LB]
   by_cases b:k=2;·subst b;simp[Aa]at hb;simp only[Qz,xb,hb.2,LB];simp only[Int.reduceEq,xy,uy];split<;>simp
   by_cases n:k=3;·subst n;simp[Aa]at hb;have:=U6 i;simp only[Qz,xb,hb.2,LB,Int.reduceEq,xy,uy];omega
   by_cases o:k=4;·subst o;simp[Aa]at hb;have:=OV t;simp only[Qz,xb,hb.1.2,LB,Int.reduceEq,xy,uy];omega
   by_cases p:k=5;·subst p;have:=z l v;simp only[Qz,xb,Int.reduceEq,xy,uy,rP,rL,sU,sl];omega
   by_cases q:k=6;·subst q;unfold Bp at e;simp only[uy,rO,sd]at e;have:=A l ks e.1.1 v;simp only[Qz,xb,Int.reduceEq,xy,rP,rL,sU,sl];omega
   ·simp[Aa,a,b,n,o,p,q]at hb
def Sb{j:J}{own:afs}(k:yF j)(h:zo j=.ok own):C6 own 100000=some (.ok j):=by obtain⟨b,a,l⟩:=H7 h;have i:=aaC _ j rV 0 b;rw[<-a]at i;obtain⟨w,d,_,_,g⟩:=Yu (xs:=own) _ j rV k 0 V b 0 [] (by rw[a];simp) (fun c s e=>by cases e);unfold C6;rw[rB V,d];simp only;rw[g 100000 V];simp only;rw[tq,<-a,VI bA rV];simp
def US{S:List Nd}(m:∀x∈S,EH x)(hb:PM S 0 S.length=0)(l:vK S=0){own:afs}(h:zR S 0=.ok own)(F:Nat)(k:SizeOf.sizeOf (uZ S 0)<F):FT F own=(0,S)/\C6 own 100000=some (.ok (uZ S 0)):=by
 unfold zR at h;split at h
 ·rename_i a;split at h;·cases h
  ·have q:=GK m;have i:=Sb q h;have o:ue (uZ S 0) 0=true:=by
    unfold zo at h;split at h;·assumption
    ·cases h
   have j:ur S 0=true:=by
    unfold zQ at a;split at a;·assumption
    ·cases a
   have p:(AK S).2.2=false:=by
    unfold zQ at a;rw[rG j]at a;cases r:(AK S).2.2 with
    |false=>rfl
    |true=>rw[r,rG rfl]at a;cases a
   have g:uZ S 0=(AK S).1:=by unfold uZ;rw[rG a]
   have d:=N5 j p F (by rw[<-AK.eq_1,<-g];exact k);rw[<-AK.eq_1,<-g]at d;have b:NR F (uZ S 0)=(0,S,0):=d;have e:G4 F (uZ S 0)=0:=by unfold G4;rw[rG o,b];exact hb
   have n:EZ F (uZ S 0)=S:=by unfold EZ;rw[rG e,b]
   refine⟨?_,i⟩;unfold FT;rw[i];simp[XY,Qn,e,n,l]
 ·cases h
