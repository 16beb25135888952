import Derived.Test.YtccjlcadbpinfaaGreatDoorX44
import Derived.Test.YtccjlcadbpinfaaGreatDoorX48
import Derived.Lib.SlBytesConst
import Derived.ChangeArms
import Derived.ChangeSame
set_option linter.all false
set_option maxRecDepth 100000
set_option maxHeartbeats 16000000
namespace Go.Proofs.YtccjlcadbpinfaaGreatDoor.Tp
open ChangeShapes WideShapes ChangeAt RowKit
open Num Mem Can
section
variable{S:List Nd}{e:Int}{F:Nat}{w w':World}{B n r:Nat}{a:List Value}
def tV.st{X:acO}{A:acN}{n:Nat}{S:List Nd}(h:tV w X A n S)(s:sK w w')(a:∀b,X b->b<w.heap.size):tV w' X A n S:=h.keep (fun q d=>s.cell (a _ d)) (fun _ h=>h)
def A9.st{X:acO}{cs:List Value}{v:rp}(h:A9 w X cs v)(s:sK w w')(a:∀b,X b->b<w.heap.size):A9 w' X cs v:=h.keep (fun q d=>s.cell (a _ d)) (fun _ h=>h)
def Bx.st(h:Bx w r a)(s:sK w w'):Bx w' r a:=h.zw (s.2 r h.lt)
def Rd.st{A:acN}{xs:acM}(h:Rd w B A n xs)(s:sK w w')(a:B<=w.heap.size):Rd w' w'.heap.size A n xs:=(Mem.Rd.keep h (fun p b=>s.cell (sj b a))).more (sG a s.1)
def BJ(h:vE w)(s:sK w w'):vE w':=xY h (fun b hb=>s.2 b (by have:=h.two;omega))
def VW{xs:acM}{S:List Nd}{R:Except Int J}(d:Aj xs 100000=some R)(e:xC (I7 R))(h:CH F xs=(0,S)):(∀x∈S,FL x)/\P4 S 0 S.length=0/\Ad S=0:=by
 unfold CH at h;rw[d]at h;dsimp only at h;split at h
 ·split at h
  ·rename_i hb;split at h
   ·rename_i a;injection h with _ h;subst h;have b:Dt F (I7 R)=(K9 F (I7 R)).2.1:=by unfold Dt;rw[rv hb]
    refine⟨?_,?_,a⟩;·rw[b];exact EG F _ e [] [] 0
    ·rw[b];unfold Fz at hb;split at hb;·have:=Lb _ hb;rw[this]at hb;exact hb
     ·cases hb
   ·rename_i a;injection h with h _;exact absurd h a
  ·rename_i hb;injection h with h _;exact absurd h hb
 ·rename_i hb;injection h with h _;exact absurd h hb
def Rm(h:Bt S 0=.error e):e≠0:=by
 unfold Bt at h;split at h
 ·split at h;·injection h with h;omega
  ·unfold yX at h;split at h
   ·split at h;·injection h with h;omega
    ·cases h
   ·injection h with h;omega
 ·rename_i a;injection h with h;rw[<-h];exact a
def Rn{own:acM}(h:Bt S 0=.ok own):own.length<=20000:=by
 unfold Bt at h;split at h
 ·split at h;·cases h
  ·exact(Hl h).2.2
 ·cases h
def Lo(h:Ad S=0):um S 0=true:=by unfold Ad at h;exact iN
def Rj(h:um S 0=true)(f:Nat)(v:rp):DO (vT S) f 0 v=DO S f 0 v:=by unfold DO;rw[zW,Oe,Mo h,h]
def Ug(g:∀x∈S,MG x):∀x∈vT S,MG x:=fun y j=>by obtain⟨x,i,rfl⟩:=sR.1 j;have h:=g x i;refine⟨h.name,fun a b=>(by cases b),fun f d=> ?_,h.symbols,(by simp[ud])⟩;obtain⟨q,e,rfl⟩:=sR.1 d;exact⟨(h.fields q e).name,fun a b=>(by cases b),Dc.small⟩
def Jq(g4:∀w,vE w->Calls Tryz.prog 5 #[] w fun e w'=>e=.returned (.bool true)/\sK w w')(xs:acM)(w:World)(ad:vE w)(A:acN)(n c B:Nat)(o:Rd w B A n xs)(h2:B<=w.heap.size)(h7:n<=c)(v:rp)(X:acO)(k i:Int)(b:Nat)(t:acN)(C F:Nat)(y:acN)(D G:Nat)(z:acN)(E I:Nat)(d6:A9 w X (vq k i b t C F y D G z E I) v)(b8:∀b,X b->b<w.heap.size):Calls Tryz.prog 3 #[.slice A n c,.agg #[.int .i64 k,.int .i64 i,.int .u64 (b:Int),.slice t C F,.slice y D G,.slice z E I]] w fun e w'=>e=.returned (.bool true)/\sK w w':=by
 have f0:=(acQ w).al rT (vo k i b t C F y D G z E I);have e6:Bx (w.alloc (vo k i b t C F y D G z E I)) w.heap.size _:=Bx.new w _ _ _ rfl;go_enter Tryz.func3,Tryz.ntmps3;go_upto_region 1 with fail;generalize w.alloc (vo k i b t C F y D G z E I)=w1 at*;have gf:=sK.below f0;have g2:=g4 w1 (BJ ad gf);go_wp2_with fail;refine g2.mono ?_;rintro hW gk ⟨rfl,s2⟩;clear g2 g4;have bv:=gf.trans s2;have cl:=e6.st s2;have h6:∀a,sK w a->∀b,X b->b<a.heap.size:=fun a s b hb=>sj (b8 b hb) s.1
 by_cases g5:2000<n;·have hc:(2000:Int)<(n:Int):=V;go_wp2_with fail;go_ret;exact⟨rfl,bv⟩
 have hc:¬(2000:Int)<(n:Int):=V;have d2:=PI v gk X k i b t C F y D G z E I (d6.st bv b8) (h6 gk bv);obtain⟨c9,cr⟩:∃c9,c9=decide (2500<wB 81 v):=⟨_,rfl⟩;rw[<-cr]at d2;have dN:=rq cr;clear cr;obtain⟨W,Y,Z,a0,a1,a2, -⟩:=cl.xa;go_wp2_with fail;refine d2.mono ?_;rintro hX gl ⟨rfl,cS⟩;clear d2 W Y Z a0 a1 a2;have bx:=bv.trans (sK.below cS);have e7:=cl.st (sK.below cS);cases c9 with
 |true=>go_wp2_with fail;go_ret;exact⟨rfl,bx⟩
 |false=>
  have f4:wB 81 v<=2500:=by have h:=of_decide_eq_false dN.out.symm;omega
  have fs:=Jz 81 v f4;have g6:(wB 81 v).toNat<=2500:=V;have b4:=rq fs;have b6:=rq g6;clear f4 fs g6 dN;obtain⟨R,ct,g3⟩:=Hj xs;have d7:xC (I7 R):=by
   cases R with
   |ok j=>exact g3 j rfl
   |error e=>exact Dc
  have d3:=Es (SizeOf.sizeOf (I7 R)+1) xs R ct d7 (vZ _) A n c gl.heap.size gl (BJ ad bx) (Rd.st o bx h2) rT V h7;obtain⟨cf,cs⟩:∃cf,cf=CH (SizeOf.sizeOf (I7 R)+1) xs:=⟨_,rfl⟩;rw[<-cs]at d3;obtain⟨le,S⟩:=cf;have e0:=rq cs;have e3:=rq ct;clear cs ct;go_wp2_with fail;refine d3.mono ?_;rintro hY r ⟨q,an,K,rfl,bn,ir,gd⟩;clear d3;have hm:=bx.trans gd;have ea:=(acQ r).al rT (Am q an K);have ch:Bx (r.alloc (Am q an K)) r.heap.size _:=Bx.new r _ _ _ rfl;go_upto_region 6 with fail;generalize r.alloc (Am q an K)=hq at*;have br:=sK.below ea;have di:=hm.trans br;by_cases f9:le=0
  ·subst f9;obtain⟨bk,f5,d1⟩:=VW e3.out d7 e0.out.symm;have a6:∀x∈S,MG x:=fun x g5=>(bk x g5).sm
   have bp:=PA bk;have fn:=Iw S 0 bp.small (fun _=>bp) (Qh S) hq (fun b=>b<r.heap.size) q an K (bn.st br (fun _ h=>h)) (fun b hb=>sj hb br.1) V (BJ ad di) a6;obtain⟨s0,s1, -⟩:=ch.Fb;go_wp2_with fail;refine fn.mono ?_;rintro i0 gn ⟨f2,ak⟩;clear fn s0 s1;have dd:=sK.below f2;have dj:=di.trans dd;cases a4:Bt S 0 with
   |error te=>
    rw[a4]at ak;dsimp only at ak;subst ak;have g1:=Rm a4;have hy:(te !=0)=true:=by simp[g1]
    clear g1 a4;go_wp2_with fail;go_ret;exact⟨rfl,dj⟩
   |ok own=>
    rw[a4]at ak;obtain⟨g,he,rfl,h8,fl⟩:=ak;have ip:=Rn a4;obtain⟨fb,fi⟩:=Tx bk f5 d1 a4 (SizeOf.sizeOf (uI S 0)+1) (vZ _);have d4:=Es (SizeOf.sizeOf (uI S 0)+1) own (.ok (uI S 0)) fi bp (vZ _) (some ⟨g,0,none⟩) own.length he gn.heap.size gn (BJ ad dj) fl rT V h8;rw[fb]at d4;have a5:=Lo d1;have f6:=Rj a5 81 v;have dK:=rq f6;have hI:=rq a5;clear a4 fb fi d1 f5 bp f6 a5 e0 e3 g3 d7;go_wp2_with fail;refine d4.mono ?_;rintro i1 O ⟨L,m,U,rfl,a5,h9,df⟩;clear d4;have ha:m=an:=by rw[<-a5.len,<-bn.len]
    subst ha;have hn:=dj.trans df;have eb:=(acQ O).al rT (Am L m U);have e5:Bx (O.alloc (Am L m U)) O.heap.size _:=Bx.new O _ _ _ rfl;go_upto_region 12 with fail;generalize O.alloc (Am L m U)=l at*;have ab:=sK.below eb;have bs:=br.trans (dd.trans (df.trans ab));have ar:=hn.trans ab;have ci:∀a,sK l a->Bx a r.heap.size [.slice q m K,.int .i64 0]:=fun a s=>ch.st (dd.trans (df.trans (ab.trans s)))
    have cj:∀a,sK l a->Bx a O.heap.size [.slice L m U,.int .i64 0]:=fun a s=>e5.st s
    have d8:∀a,sK l a->tV a (fun b=>b<l.heap.size) q m S:=fun a s=>(bn.st (bs.trans s) (fun _ h=>h)).keep (fun _ _=>rfl) (fun b hb=>sj hb bs.1)
    have d9:∀a,sK l a->tV a (fun b=>b<l.heap.size) L m S:=fun a s=>(a5.st (ab.trans s) (fun _ h=>h)).keep (fun _ _=>rfl) (fun b hb=>sj hb ab.1)
    have a9:∀a,sK l a->vE a:=fun a s=>BJ ad (ar.trans s)
    have a7:∀a,sK l a->∀b,b<l.heap.size->b<a.heap.size:=fun a s b hb=>sj hb s.1
    have dk:∀a,sK l a->Bx a w.heap.size [.int .i64 k,.int .i64 i,.int .u64 (b:Int),.slice t C F,.slice y D G,.slice z E I]:=fun a s=>e7.st (gd.trans (bs.trans s))
    have bz:∀a,sK l a->A9 a (fun b=>b<l.heap.size) (vq k i b t C F y D G z E I) v:=fun a s=>(d6.st (ar.trans s) b8).keep (fun _ _=>rfl) (fun b hb=>sj (b8 b hb) ar.1)
    have d5:m<=1000:=h9.2;have f8:=fun a(s:sK l a) A c o=>KS S 0 a (fun b=>b<l.heap.size) A m c o (a7 a s) V (a9 a s) a6
    have ff:=fun a(s:sK l a) A c o=>Xn S 0 a (fun b=>b<l.heap.size) A m c o (a7 a s) V (a9 a s) a6
    have fj:=fun a(s:sK l a) A c o=>KN S a6 81 (wB 81 v).toNat 0 V v b4.out b6.out V a (a9 a s) (fun b=>b<l.heap.size) A m c k i b t C F y D G z E I o d5 (bz a s) (a7 a s)
    have g0:=fun a(s:sK l a) A c o=>PV S 0 a (fun b=>b<l.heap.size) A m c o (a7 a s) V
    have f7:=fun a(s:sK l a) A c o=>BA S a6 81 0 V v (b4.out.lv b6.out) a (a9 a s) (fun b=>b<l.heap.size) A m c k i b t C F y D G z E I o d5 (bz a s) (a7 a s)
    have d0:=fun a(s:sK l a)(cp:acO)(h5:∀b,b<l.heap.size->cp b)(h4:∀b,cp b->b<a.heap.size) A c o=>BA (vT S) (Ug a6) 81 0 V v (b4.out.lv b6.out) a (a9 a s) cp A m c k i b t C F y D G z E I o d5 ((bz a s).keep (fun _ _=>rfl) h5) h4
    rw[dK.out]at d0;have fm:=fun a(s:sK l a)=>PU S 0 a (fun b=>b<l.heap.size) q L m K U (d8 a s) (d9 a s) (a7 a s) V
    generalize CC S 0=hF at*;generalize Ch S 0=hG at*;generalize OR S 0=hH at*;generalize Lr S 81 0 v=hE at*;generalize DO S 81 0 v=hD at*;have a8:=rq ci;have b5:=rq cj;have cc:=rq dk;have dM:=rq f8;have e1:=rq ff;have e2:=rq fj;have h1:=rq g0;have gA:=rq f7;have gz:=rq d0;have h0:=rq fm;have ac:=rq d8;have cb:=rq d9;have it:=bs.1;have iz:=ar.1;have iv:=ab.1;have i5:=ci l (sK.refl _)|>.lt;have i6:=cj l (sK.refl _)|>.lt;have i3:=dk l (sK.refl _)|>.lt;clear ci cj dk ch e5 e6 cl e7 bn a5 d6 ea eb f2 cS f0 o fl a7 f8 ff fj g0 f7 d0 fm d8 d9 dK b4 b6 bz a9 bk a6;have en:=dM.out l (sK.refl _) q K (ac.out l (sK.refl _));obtain⟨s0,s1, -⟩:=(a8.out l (sK.refl _)).Fb;go_wp2_with fail;refine en.mono ?_;rintro i2 dB ⟨hC,k0,hM,rfl,gc,i8,ii,f3⟩;clear en s0 s1;have b1:=sK.below f3;have ef:=dM.out dB b1 L U (cb.out dB b1);obtain⟨s0,s1, -⟩:=(b5.out dB b1).Fb;go_wp2_with fail;refine ef.mono ?_;rintro hN dp ⟨hz,ji,hJ,rfl,g8,i7,i9,cx⟩;clear ef s0 s1;have c4:=b1.trans (sK.below cx);have eg:=e1.out dp c4 q K (ac.out dp c4);obtain⟨s0,s1, -⟩:=(a8.out dp c4).Fb;go_wp2_with fail;refine eg.mono ?_;rintro hO dr ⟨rfl,b9⟩;clear eg s0 s1;have c5:=c4.trans (sK.below b9);have ei:=e1.out dr c5 L U (cb.out dr c5);obtain⟨s0,s1, -⟩:=(b5.out dr c5).Fb;go_wp2_with fail;refine ei.mono ?_;rintro hP bO ⟨rfl,be⟩;clear ei s0 s1;have aU:=c5.trans (sK.below be);have ek:=e2.out bO aU q K (ac.out bO aU);obtain⟨s0,s1, -⟩:=(a8.out bO aU).Fb;obtain⟨W,Y,Z,a0,a1,a2, -⟩:=(cc.out bO aU).xa;go_wp2_with fail;refine ek.mono ?_;rintro hQ c3 ⟨hA,jj,hK,rfl,g9,id,bj⟩;clear ek s0 s1 W Y Z a0 a1 a2;have b0:=aU.trans (sK.below bj);have el:=e2.out c3 b0 L U (cb.out c3 b0);obtain⟨s0,s1, -⟩:=(b5.out c3 b0).Fb;obtain⟨W,Y,Z,a0,a1,a2, -⟩:=(cc.out c3 b0).xa;go_wp2_with fail;refine el.mono ?_;rintro hR ds ⟨hB,jk,hL,rfl,gb,ih,af⟩;clear el s0 s1 W Y Z a0 a1 a2;have c6:=b0.trans (sK.below af);have em:=h1.out ds c6 q K (ac.out ds c6);obtain⟨s0,s1, -⟩:=(a8.out ds c6).Fb;go_wp2_with fail;refine em.mono ?_;rintro hS N ⟨b3,b7,rfl,g7,aa⟩;clear em s0 s1;have ht:=c6.trans (sK.below aa);have a3:=(acQ N).al rT (Am b3 m b7);have c8:Bx (N.alloc (Am b3 m b7)) N.heap.size _:=Bx.new N _ _ _ rfl;go_upto_region 21 with fail;generalize N.alloc (Am b3 m b7)=k1 at*;have hu:=ht.trans (sK.below a3);have i4:=c8.lt;refine su [0,1,2,3,4,5,6,7,8,9,10,11,12,13,14,15,16,17,18,19,20,21,22,23,24,25,26,27,28,29,30,31,32,33,34,36,37,35,38,39,40,41,42,43,44,45,46] [35,38,44] bg bg bi bg (fun _ _ d _ _ h=>bw) (fun wd M sW=> ?_);clear sW;have b2:=hu.trans (sK.below M);have j4:=M.size;have j3:=b2.1;have h3:=c8.st (sK.below M);have gx:=(sK.below cx).trans ((sK.below b9).trans ((sK.below be).trans ((sK.below bj).trans ((sK.below af).trans ((sK.below aa).trans ((sK.below a3).trans (sK.below M)))))));have go:=(sK.below b9).trans ((sK.below be).trans ((sK.below bj).trans ((sK.below af).trans ((sK.below aa).trans ((sK.below a3).trans (sK.below M))))));have gr:=(sK.below af).trans ((sK.below aa).trans ((sK.below a3).trans (sK.below M)));have gs:=(sK.below aa).trans ((sK.below a3).trans (sK.below M));have hi:=Rd.st gc gx rT;have hf:=Rd.st g8 go rT;have hg:=Rd.st g9 gr rT;have hh:=Rd.st gb gs rT;have hj:=g7.st ((sK.below a3).trans (sK.below M)) (fun b hb=>hb.2);have j1:N.heap.size<wd.heap.size:=V;clear gc g8 g9 gb g7 gx go gr gs f3 cx b9 be bj af aa a3 c8 M;obtain⟨e8,e9, -⟩:=h3.Fb;obtain⟨s0,s1, -⟩:=(a8.out wd b2).Fb;obtain⟨W,Y,Z,a0,a1,a2, -⟩:=(cc.out wd b2).xa;have er:=gz.out wd b2 (fun b=>b<wd.heap.size) (fun b hb=>V) (fun _ h=>h) b3 b7 (hj.keep (fun _ _=>rfl) (fun b hb=>V));repeat((first|(refine FR rfl rfl rfl rfl hi V ?_)|(refine FR rfl rfl rfl rfl hf V ?_)|(refine FR rfl rfl rfl rfl hg V ?_)|(refine FR rfl rfl rfl rfl hh V ?_)|(refine sJ rfl rfl rfl bh ?_)|(refine sN rfl rfl rfl ?_)|(refine sM rfl rfl rfl (wd.heap.size) V _ (by intro w' hb;have hr:=(hb.cell (p:=⟨N.heap.size,0,none⟩) bd).trans e8;have hs:=(hb.cell (p:=⟨N.heap.size,1,none⟩) bd).trans e9;have hw:=(hb.cell (p:=⟨r.heap.size,0,none⟩) bd).trans s0;have hx:=(hb.cell (p:=⟨r.heap.size,1,none⟩) bd).trans s1;have k3:=(hb.cell (p:=⟨w.heap.size,0,none⟩) bd).trans W;have k4:=(hb.cell (p:=⟨w.heap.size,1,none⟩) bd).trans Y;have k5:=(hb.cell (p:=⟨w.heap.size,2,none⟩) bd).trans Z;have k6:=(hb.cell (p:=⟨w.heap.size,3,none⟩) bd).trans a0;have k7:=(hb.cell (p:=⟨w.heap.size,4,none⟩) bd).trans a1;have b1:=(hb.cell (p:=⟨w.heap.size,5,none⟩) bd).trans a2;clear hb;go_simp;first|done|with_reducible rfl) ?_));simp only[Act.put,rB,rz,rA])
    refine sB rfl rfl wd.heap.size rT (fun e4 T=> ?_);go_wp2_with fail;refine er.mono ?_;rintro hT gi ⟨rfl,cy⟩;clear er;go_wp2_with fail;refine T _ _ cy ?_;clear T;have hd:=cy.size;have dI:=b2.trans (sK.below cy);have et:=gA.out gi dI q K (ac.out gi dI);refine aZ ?_;refine sB rfl rfl wd.heap.size rT (fun e4 T=> ?_);go_wp2_with fail;refine et.mono ?_;rintro hU dz ⟨rfl,cz⟩;clear et;go_wp2_with fail;refine T _ _ (cz.mono hd) ?_;clear T;have j2:=cz.size;have c7:=dI.trans (sK.below cz);have es:=h0.out dz c7;obtain⟨ho,hp, -⟩:=(b5.out dz c7).Fb;obtain⟨hk,hl, -⟩:=(a8.out dz c7).Fb;clear s0 s1 W Y Z a0 a1 a2 e8 e9;repeat((first|(refine sJ rfl rfl rfl bh ?_)|(refine sN rfl rfl rfl ?_)|(refine sM rfl rfl rfl (wd.heap.size) V _ (by intro w' hb;have hr:=(hb.cell (p:=⟨O.heap.size,0,none⟩) bd).trans ho;have hs:=(hb.cell (p:=⟨O.heap.size,1,none⟩) bd).trans hp;have hw:=(hb.cell (p:=⟨r.heap.size,0,none⟩) bd).trans hk;have hx:=(hb.cell (p:=⟨r.heap.size,1,none⟩) bd).trans hl;clear hb;go_simp;first|done|with_reducible rfl) ?_));simp only[Act.put,rB,rz,rA])
    refine sB rfl rfl wd.heap.size rT (fun e4 T=> ?_);go_wp2_with fail;refine es.mono ?_;rintro hV k2 ⟨rfl,f1⟩;clear es;go_wp2_with fail;refine T _ _ (f1.mono V) ?_;clear T;refine aN ?_;refine sn ?_;have hv:=ar.trans (c7.trans (sK.below f1));go_wp2_with fail;go_ret;exact⟨rfl,hv⟩
  ·have hy:(le !=0)=true:=by simp[f9]
   go_wp2_with fail;go_ret;exact⟨rfl,di⟩
def Va:acM:=[123,34,116,121,112,101,34,58,34,97,114,114,97,121,34,44,34,105,116,101,109,115,34,58,34,105,110,116,34,125]
def j0:J:=jO [tp,uO] [jT [97,114,114,97,121],jT [105,110,116]]
def S0:List Nd:=[{Cn with kind:=11,items:=1},{Cn with kind:=3}]
def u0:rp:=.mk 11 0 0 [] [.mk 3 3 0 [] [] []] []
set_option maxRecDepth 100000
def Yc:Aj Va 100000=some (.ok j0):=bg
def abi:(Lib.compact (x9 [tp,uO])).length=2:=by
 have g:(x9 [tp,uO]).Perm [tp,uO]:=List.mergeSort_perm _ _;have d:(x9 [tp,uO]).Nodup:=g.nodup_iff.2 bD;have e:=EU [tp,uO];generalize x9 [tp,uO]=l at*;match l,e,d with
 | [a,b],_,d=>
  have:a≠b:=by simpa using d
  have i:Lib.keeps #[a,b] 0=true:=Lib.keeps_lt_one _ 0 V;have j:Lib.keeps #[a,b] 1=true:=by simp[Lib.keeps,this,Cc this]
  simp[Lib.compact,Lib.compactUpTo,List.range_succ,List.filter,i,j]
def ZX:tT j0 0=true:=by
 have d:BR j0=true:=by show(if(6:Int)=6 then decide (([tp,uO]:List acM).length=2)&&decide ((Lib.compact (x9 [tp,uO])).length=2)&& !([tp,uO].any fun x=> !yB x)else decide (2=0))=true;rw[rv rfl,abi];kernel_rfl
 have a:Ab j0=true:=bg;have b:CJ [jT [97,114,114,97,121],jT [105,110,116]] 1=true:=bg;show(Ab j0&&BR j0&& !(decide (32<=0)&&(decide ((6:Int)=5)||decide ((6:Int)=6)))&&CJ [jT [97,114,114,97,121],jT [105,110,116]] 1)=true;rw[a,d,b];rfl
def Zf:K9 3000 j0=(0,S0,0):=bg
def wg0:P4 S0 0 2=0:=bg
def aaN:Ad S0=0:=bg
def rs0:um S0 0=true:=bg
def abf:(Bs S0).2.2=false:=bg
def Ws:uI S0 0=j0:=bg
def abe:yX j0=.ok Va:=by have h:(if(ya j0 ([],false)).2=true then(.error 3:Except Int acM)else .ok (ya j0 ([],false)).1)=.ok Va:=bg;unfold yX;rw[rv ZX];exact h
def dp0:tR j0=1:=bg
def abk:Bt S0 0=.ok Va:=by
 have a:zq S0 0=0:=by unfold zq;rw[rv rs0,abf];rfl
 unfold Bt;rw[rv a,Ws,dp0,abe];rfl
def abg:SizeOf.sizeOf j0<3000:=by simp[j0,jO,jT,tp,uO];decide
def ZP:CH 3000 Va=(0,S0):=by
 have a:Fz 3000 j0=0:=by unfold Fz;rw[rv ZX,Zf];exact wg0
 have b:Dt 3000 j0=S0:=by unfold Dt;rw[rv a,Zf]
 unfold CH;rw[Yc];simp[We,I7,a,b,aaN]
def vp(n:Int)(u:Nat)(h:KB n=(u:Int))(a:u<128):Er n=[UInt8.ofNat u]:=by unfold Er;rw[h,rW,Vr.DB a]
def aaQ:xb S0 81 0 u0=[2,6,0]:=by have h:xb S0 81 0 u0=Er 1++(Er 3++[])++Er 0:=rfl;rw[h,vp 1 2 bD V,vp 3 6 bD V,vp 0 0 bD V];rfl
def aaM:DO S0 81 0 u0=true:=bg
def abl:zE 81 u0=1:=bg
def Zh:wB 81 u0=2:=bg
def aaO:Lr S0 81 0 u0=([2,6,0],0):=by unfold Lr;rw[rv aaM,abl,aaQ];rfl
end
abbrev Z0:Array Value:= #[.int .u8 123,.int .u8 34,.int .u8 116,.int .u8 121,.int .u8 112,.int .u8 101,.int .u8 34,.int .u8 58,.int .u8 34,.int .u8 97,.int .u8 114,.int .u8 114,.int .u8 97,.int .u8 121,.int .u8 34,.int .u8 44,.int .u8 34,.int .u8 105,.int .u8 116,.int .u8 101,.int .u8 109,.int .u8 115,.int .u8 34,.int .u8 58,.int .u8 34,.int .u8 105,.int .u8 110,.int .u8 116,.int .u8 34,.int .u8 125]
abbrev txc:Go.Obj:=.cells Z0 5 (Z0.size,Z0.size+1)
def LX(w:World)(C:Array Value)(e:TypeId)(fr:Nat×Nat)(p:Addr):(w.alloc (.cells C e fr)).cell? p=(w.alloc (.cells C e)).cell? p:=by simp only[World.cell?,World.alloc,Array.getElem?_push];by_cases h:p.block=w.heap.size<;>simp[h]
def wf0:xC j0:=by obtain⟨R,a,h⟩:=Hj Va;rw[Yc]at a;injection a with a;exact h j0 a.symm
def abh:Vj 81 2 u0:=by have h:=Jz 81 u0 (by rw[Zh];omega);rw[Zh]at h;exact h
def sm0:∀x∈S0,MG x:=fun x a=>
 by
  have h:∀k i:Int,MG {Cn with kind:=k,items:=i}:=fun k i=>⟨dH,dH,dH,dH,dH⟩
  rcases sg.1 a with rfl|a;·exact h 11 1
  ·rw[sH.1 a];exact h 3 0
def aba(w:World)(X:acO):A9 w X (vq 3 3 0 none 0 0 none 0 0 none 0 0) (.mk 3 3 0 [] [] []):=.mk (Row.nil _ _ _ _) (Row.nil _ _ _ _) rfl (fun i h=>absurd h bi) (Row.nil _ _ _ _) V (by unfold OE;omega) V V
def aa9{w:World}{g:Nat}{X:acO}(hb:Bx w g [.int .i64 3,.int .i64 3,.int .u64 0,.slice none 0 0,.slice none 0 0,.slice none 0 0])(d:X g):A9 w X (vq 11 0 0 none 0 0 (some ⟨g,0,none⟩) 1 1 none 0 0) u0:=by
 refine .mk (css:=[vq 3 3 0 none 0 0 none 0 0 none 0 0]) (Row.nil _ _ _ _) ⟨rfl,fun _=>⟨g,0,rfl,d,fun i cs a=> ?_⟩⟩ rfl (fun i h k=> ?_) (Row.nil _ _ _ _) V (by unfold OE;omega) V V
 ·cases i with
  |zero=>simp at a;subst a;refine⟨rfl,fun j u e=> ?_⟩;rw[show 0+(0*6+j)=j from V];exact hb.c j u e
  |succ i=>simp at a
 ·have b:i=0:=by simp at h;exact h
  subst b;exact aba w X
def Rw(w:World)(t:vE w):Calls Tryz.prog 5 #[] w fun e w'=>e=.returned (.bool true)/\sK w w':=by
 have B:=(acQ w).al rT txc;have D:Rd (w.alloc txc) (w.heap.size+1) (some ⟨w.heap.size,0,none⟩) 30 Va:=Mem.Rd.keep (w:=w.alloc (.cells Z0 5)) (Mem.Al w Va) (fun p _=>LX w Z0 _ _ p);have v:=Es 3000 Va (.ok j0) Yc wf0 abg (some ⟨w.heap.size,0,none⟩) 30 30 (w.heap.size+1) (w.alloc txc) (t.below B) D bi V V;rw[ZP]at v;have U:=sK.below B;clear D;have a7:=fun(w:World)(C:Array Value)(n c:Nat)=>Lib.run_convert_bytes_const (P:=Tryz.prog) w 22 5 C n c sZ BC
 go_enter Tryz.func5,Tryz.ntmps5;go_wp2_with fail;refine v.mono ?_;rintro a2 d ⟨i,l,k,rfl,y,S,s2⟩;clear v;have W:=U.trans s2;have M:=(acQ d).al rT (Am i l k);have r:Bx (d.alloc (Am i l k)) d.heap.size _:=Bx.new d _ _ _ rfl;go_upto_region 2 with fail;generalize d.alloc (Am i l k)=Z at*;have j:=sK.below M;have K:=W.trans j;have z:=Iw S0 0 (by rw[Ws];exact wf0.small) (fun _=>by rw[Ws];exact wf0) (by rw[Ws,dp0];omega) Z (fun b=>b<d.heap.size) i l k (y.st j (fun _ h=>h)) (fun b hb=>sj hb j.1) V (BJ t K) sm0;rw[abk]at z;obtain⟨s0,s1, -⟩:=r.Fb;go_wp2_with fail;refine z.mono ?_;rintro a3 a ⟨O,g,a8,rfl,a6,E⟩;clear z s0 s1;have m:=sK.below O;have X:=K.trans m;have N:=(acQ a).al rT (vo 3 3 0 none 0 0 none 0 0 none 0 0);have q:Bx (a.alloc (vo 3 3 0 none 0 0 none 0 0 none 0 0)) a.heap.size _:=Bx.new a _ _ _ rfl;have o:=sK.below N;have L:=X.trans o;have x:=KN S0 sm0 81 2 0 V u0 abh V V (a.alloc (vo 3 3 0 none 0 0 none 0 0 none 0 0)) (BJ t L) (fun b=>b<(a.alloc (vo 3 3 0 none 0 0 none 0 0 none 0 0)).heap.size) i l k 11 0 0 none 0 0 (some ⟨a.heap.size,0,none⟩) 1 1 none 0 0 ((y.st (j.trans (m.trans o)) (fun _ h=>h)).keep (fun _ _=>rfl) (fun b hb=>sj hb (j.trans (m.trans o)).1)) S.2 (aa9 q q.lt) (fun _ h=>h);rw[aaO]at x;have G:=Rd.st E o rT;obtain⟨s0,s1, -⟩:=(r.st m).Fb;go_wp2_with fail;refine x.mono ?_;rintro a4 a9 ⟨a0,T,a1,rfl,A,a5,Q⟩;clear x s0 s1;have I:=sK.below Q;have Y:=L.trans I;have F:=Rd.st G I rT;unfold Va at F;dsimp only at A;have R:T=3:=by have:=A.len;simpa using this.symm
 subst R;clear E G q r y;go_wp2_with(first|(refine Dd rfl rfl F ?_)|(refine Dd rfl rfl A ?_));go_ret;exact⟨rfl,Y⟩
def Ks(xs:acM)(w:World)(r:vE w)(A:acN)(n c B:Nat)(y:Rd w B A n xs)(q:B<=w.heap.size)(x:n<=c)(v:rp)(X:acO)(k i:Int)(b:Nat)(a:acN)(h m:Nat)(d:acN)(j o:Nat)(g:acN)(l p:Nat)(z:A9 w X (vq k i b a h m d j o g l p) v)(t:∀b,X b->b<w.heap.size):Calls Tryz.prog 3 #[.slice A n c,.agg #[.int .i64 k,.int .i64 i,.int .u64 (b:Int),.slice a h m,.slice d j o,.slice g l p]] w fun e w'=>e=.returned (.bool true)/\sK w w':=Jq Rw xs w r A n c B y q x v X k i b a h m d j o g l p z t
def VX:maxLen<=OE:=by simp[maxLen,OE]
section
variable{H:Type}{enc:TypeId×Value->H}{w:World}{sp:Nat->Bool}{held:Bool}
def HB{t e:TypeId}{k C:Nat}{c:Value}{x:DataW H×List MemPlace}(Y:Tryz.prog.underlying t=some (.slice e))(Q:Tryz.prog.cellsOf e=k)(K:0<k)(h:DataW.trod enc Tryz.prog w 0 sp held C t [c]=some x):∃(A:acN)(n cap:Nat)(css:List (List Value)),c=.slice A n cap/\n<=cap/\n<=OE/\Row w (fun b=>b<w.heap.size) k A n css/\∀(i:Nat)(cs:List Value),css[i]? =some cs->∃(f:Nat)(y:DataW H×List MemPlace),f<C/\DataW.trod enc Tryz.prog w 0 sp held f e cs=some y:=by
 rcases DataW.trod_slice Y h with⟨o, -⟩|⟨a,n,cap,a2,a5,f,rfl,o, -, -,F,N,a3,D, -⟩;·injection o with o;exact⟨none,0,0,[],o,rN _,by unfold OE;omega,Row.nil _ _ _ _,fun i cs h=>fW⟩
 ·injection o with o;rw[Q]at D;have B:∀i,i<n->∃cs y,w.cells? 0 (a.add (i*k)) k=some cs/\DataW.trod enc Tryz.prog w 0 sp held f e cs=some y:=fun i d=>
   by
    have v:=D i d;rw[ry V]at v;cases l:w.cells? 0 (a.add (i*k)) k with
    |none=>rw[l]at v;cases v
    |some cs=>rw[l]at v;exact⟨cs,_,rfl,v⟩
  have E:∀i cs,((List.range n).map fun i=>(w.cells? 0 (a.add (i*k)) k).getD [])[i]? =some cs->i<n/\w.cells? 0 (a.add (i*k)) k=some cs:=fun i cs d=>
   by
    rw[tz]at d;cases p:(List.range n)[i]? with
    |none=>rw[p]at d;cases d
    |some q=>
     have r:i<n:=by have:=(rK.1 p).1;exact fg
     have T:q=i:=by rw[List.getElem?_range r]at p;injection p with p;exact p.symm
     subst T;rw[p]at d;obtain⟨I,y,l,_⟩:=B q r;simp only[uj,l,Option.getD_some,sb]at d;rw[<-d];exact⟨r,l⟩
  refine⟨some a,n,cap,(List.range n).map fun i=>(w.cells? 0 (a.add (i*k)) k).getD [],o,F,sG F (sG N VX),⟨bi,fun S=> ?_⟩,fun i cs d=> ?_⟩
  ·obtain⟨a1,_,M,_⟩:=B 0 S;obtain⟨_,a4,U⟩:=World.cells?_some M;have z:=U 0 K;rw[ry V]at z;rw[wX]at z;obtain⟨g,Z,a0⟩:=a;have X:a0=none:=by simpa[Addr.add]using World.cell?_spot z
   subst X;refine⟨g,Z,rfl,by simpa[Addr.add]using xy _ _ z,fun i cs d=> ?_⟩;obtain⟨r,l⟩:=E i cs d;obtain⟨_,R,W⟩:=World.cells?_some l;refine⟨R,fun j u G=> ?_⟩;have O:j<k:=by have:=(rK.1 G).1;omega
   have m:=W j O;rw[G,xO,xO]at m;rw[<-m];congr 2;omega
  ·obtain⟨r,l⟩:=E i cs d;obtain⟨I,y,m,L⟩:=B i r;rw[l]at m;injection m with m;subst m;exact⟨f,y,vZ _,L⟩
def NQ{b:Type}{f:b->List Value}:∀(css:List (List Value)),(∀(i:Nat)(cs:List Value),css[i]? =some cs->∃a,cs=f a)->∃l:List b,css=l.map f
 | [],_=>⟨[],rfl⟩
 |cs::r,h=>by obtain⟨a,d⟩:=h 0 cs rfl;obtain⟨l,g⟩:=NQ r (fun i c e=>h (i+1) c (by simpa using e));exact⟨a::l,by rw[g,d];rfl⟩
def HA{d:Nat}{c:Value}{x:DataW H×List MemPlace}(h:DataW.trod enc Tryz.prog w 0 sp held d 22 [c]=some x):∃(A:acN)(n cap:Nat)(xs:acM),c=.slice A n cap/\n<=cap/\n<=OE/\Row w (fun b=>b<w.heap.size) 1 A n (Xw xs):=by obtain⟨A,n,cap,css,g,j,l,a,o⟩:=HB (e:=5) (k:=1) sZ bg V h;obtain⟨xs,r⟩:=NQ (f:=fun x:UInt8=>[bc x]) css (fun i cs p=>by obtain⟨f,y,_,t⟩:=o i cs p;obtain⟨m,rfl,_,q⟩:=Jn BC t;have hb:=Fits.u8 q;exact⟨UInt8.ofNat m.toNat,by unfold bc;rw[tc];congr 2;omega⟩);exact⟨A,n,cap,xs,g,j,l,by rw[r]at a;exact a⟩
def Ro{d:Nat}{c:Value}{x:DataW H×List MemPlace}(h:DataW.trod enc Tryz.prog w 0 sp held d 25 [c]=some x):∃(A:acN)(n cap:Nat)(ks:List acM),c=.slice A n cap/\n<=cap/\n<=OE/\Row w (fun b=>b<w.heap.size) 1 A n (uF ks):=by obtain⟨A,n,cap,css,g,j,l,a,m⟩:=HB (e:=9) (k:=1) tL bg V h;obtain⟨ks,p⟩:=NQ (f:=fun t:acM=>[sv t]) css (fun i cs o=>by obtain⟨f,y,_,q⟩:=m i cs o;obtain⟨s,rfl,_,_⟩:=DataW.trod_string zh q;exact⟨s.data.toList,by unfold sv;simp⟩);exact⟨A,n,cap,ks,g,j,l,by rw[p]at a;exact a⟩
def Pd{w:World}{X:acO}:∀(css:List (List Value)),(∀(i:Nat)(cs:List Value),css[i]? =some cs->∃v,A9 w X cs v)->∃l:List rp,css.length=l.length/\∀(i:Nat)(h:i<css.length)(b:i<l.length),A9 w X css[i] l[i]
 | [],_=>⟨[],rfl,fun i h=>absurd h bi⟩
 |cs::r,h=>
 by
  obtain⟨v,e⟩:=h 0 cs rfl;obtain⟨l,d,a⟩:=Pd r (fun i c a=>h (i+1) c (by simpa using a));refine⟨v::l,by simp[d],fun i h b=> ?_⟩;cases i with
  |zero=>exact e
  |succ i=>exact a i dC (by simpa using b)
def LN:∀(N g:Nat),g<=N->∀(cs:List Value)(x:DataW H×List MemPlace),DataW.trod enc Tryz.prog w 0 sp held g 27 cs=some x->∃v,A9 w (fun b=>b<w.heap.size) cs v:=by
 intro N;induction N with
 |zero=>intro g W cs x h;obtain rfl:g=0:=V;simp[DataW.trod]at h
 |succ N a2=>
  intro g W cs x h;obtain⟨xs,n,rfl, -,D,a0,a⟩:=DataW.trod_struct Tryz.underlying27 h;rw[show Tryz.prog.cellsOf 27=6 from bg]at D;match cs,D with
  | [c0,c1,c2,c3,c4,c5],_=>
   have d:∀i,i<6->∃y,xs[i]? =some y:=fun i j=>⟨xs[i]'(by rw[a0];exact j),ry _⟩
   obtain⟨ak,K⟩:=d 0 V;obtain⟨an,L⟩:=d 1 V;obtain⟨ar,M⟩:=d 2 V;obtain⟨aU,O⟩:=d 3 V;obtain⟨b0,Q⟩:=d 4 V;obtain⟨b1,R⟩:=d 5 V;have m:=a 0 _ rfl;have o:=a 1 _ rfl;have p:=a 2 _ rfl;have q:=a 3 _ rfl;have r:=a 4 _ rfl;have z:=a 5 _ rfl;rw[K]at m;rw[L]at o;rw[M]at p;rw[O]at q;rw[Q]at r;rw[R]at z;have a3:∀t,t=3\/t=2\/t=23\/t=22\/t=24\/t=25->Tryz.prog.cellsOf t=1:=fun t Y=>by rcases Y with rfl|rfl|rfl|rfl|rfl|rfl<;>kernel_rfl
   rw[a3 _ bi]at m o p q r z;change DataW.trod enc Tryz.prog w 0 sp held n 3 [c0]=some ak at m;change DataW.trod enc Tryz.prog w 0 sp held n 2 [c1]=some an at o;change DataW.trod enc Tryz.prog w 0 sp held n 23 [c2]=some ar at p;change DataW.trod enc Tryz.prog w 0 sp held n 22 [c3]=some aU at q;change DataW.trod enc Tryz.prog w 0 sp held n 24 [c4]=some b0 at r;change DataW.trod enc Tryz.prog w 0 sp held n 25 [c5]=some b1 at z;obtain⟨a7,A, -,bp⟩:=Jn Tryz.underlying3 m;obtain⟨a8,B, -,w1⟩:=Jn Tryz.underlying2 o;obtain⟨E,C, -,ad⟩:=Jn Tryz.underlying23 p;obtain⟨b2,b8,bj,af,S,a4,F,a9⟩:=HA q;obtain⟨b3,b9,bk,css,T,a5,G,aa,ac⟩:=HB (e:=27) (k:=6) PX bg V r;obtain⟨b4,be,bn,ks,U,a6,I,ab⟩:=Ro z;injection A with A;injection B with B;injection C with C;subst A B C S T U;obtain⟨l,X,j⟩:=Pd css (fun i cs j=>by obtain⟨f,y,b7,a1⟩:=ac i cs j;exact a2 f V cs y a1);have b5:=Fits.i64 w1;have b6:=Fits.u64 ad;obtain⟨u,Z⟩:∃u:Nat,E=(u:Int):=⟨E.toNat,V⟩;subst Z;exact⟨.mk a7 a8 u af l ks,.mk a9 aa X j ab ⟨a4,a5,a6⟩ ⟨F,G,I⟩ V V⟩
end
