import Derived.Test.YtccjlcadbpinfaaGreatDoorX2
import Derived.WalkMore
set_option linter.all false
set_option maxRecDepth 100000
set_option maxHeartbeats 8000000
namespace Go.Proofs.YtccjlcadbpinfaaGreatDoor.Tp
open ChangeShapes WideShapes ChangeAt RowKit
open Num Mem Can
def KB{xs:afs}:∀(k a v:Nat),a<=(vI xs k a v).2
 |0,a,v=>rZ _
 |k+1,a,v=>
 by
  unfold vI;split;·have:=KB (xs:=xs) k (a+1);rename_i b _;have:=this (v*16+b);omega
  ·exact jF
def EA(c:Nat):1<=(Ut.uu c).length/\(Ut.uu c).length<=4:=by
 unfold Ut.uu;split;·simp
 ·split;·simp
  ·split<;>simp
def Xf{xs:afs}{a:Nat}(o:a<=xs.length):(xx xs a).1<=xs.length/\a<=(xx xs a).1/\(xx xs a).2.1.length<=4/\((xx xs a).2.2=0->a<(xx xs a).1)/\((xx xs a).2.2=0\/(xx xs a).2.2=20):=by
 unfold xx;rcases Og (pk xs a)with⟨j,d⟩|⟨i,j,hi8,d,m⟩
 ·rw[d];simp only;by_cases hu:pk xs a=117
  ·rw[rB (by simp[hu])];have p:a<xs.length:=by
    rcases tE a xs.length with h'|h';·exact h'
    ·exact qh
   have g:(CZ xs a).2<=xs.length/\a+1<=(CZ xs a).2:=by
    have v:=Ch (xs:=xs) 4 (a+1) 0 V;have B:=KB (xs:=xs) 4 (a+1) 0;unfold CZ;split
    ·rename_i r;have t:(vI xs 4 (a+1) 0).2+1<xs.length:=by
      rcases tE ((vI xs 4 (a+1) 0).2+1) xs.length with h'|h';·exact h'
      ·exact absurd (show(0:UInt8)=117 by rw[<-r.2.2.2];exact lF) bH
     have C:=Ch (xs:=xs) 4 ((vI xs 4 (a+1) 0).2+2) 0 V;have D:=KB (xs:=xs) 4 ((vI xs 4 (a+1) 0).2+2) 0;exact bl
    ·omega
   split;·exact⟨g.1,bl,(EA _).2,fun _=>bl,.inl rfl⟩
   ·exact⟨g.1,bl,bA,(by intro h;cases h),.inr rfl⟩
  ·rw[rG hu];exact⟨o,rZ _,bA,(by intro h;cases h),.inr rfl⟩
 ·have p:a<xs.length:=by
   rcases tE a xs.length with h'|h';·exact h'
   ·exact absurd mJ m
  obtain⟨b,q⟩:∃b,tW[i]? =some b:=⟨tW[i]' gZ,rD gZ⟩;rw[d,q];exact⟨bl,bl,bA,fun _=>bl,.inl rfl⟩
def D0(xs:afs):Nat->Nat->afs->afs×Nat×Int
 |0,a,_=>([],a,20)
 |f+1,a,ts=>if(pk xs a).toNat<32 then([],a,20)else if pk xs a=34 then(ts,a+1,0)else if pk xs a=92 then(if(xx xs (a+1)).2.2=0 then D0 xs f (xx xs (a+1)).1 (ts++(xx xs (a+1)).2.1)else([],(xx xs (a+1)).1,(xx xs (a+1)).2.2))else if(Ut.wu (xs.drop a)).2.2=0 then D0 xs f (a+(Ut.wu (xs.drop a)).2.1) (ts++(xs.drop a).take (Ut.wu (xs.drop a)).2.1)else([],a+(Ut.wu (xs.drop a)).2.1,20)
section
variable{P:Program}{ops:Array Oper}{Q:Exit->Act->World->Prop}{mk:List Nat}{K:Nat->World->World->Prop}{i:Nat}{σ:sA}{T:Nat}{a:Act}{w:World}{dst:Option Tmp}{x y z:Operand}{ty:TypeId}{pos:String}{af:Array Edge}{gd:Option (Nat×Bool)}
def Uo(m:mk.contains i=false)(j:ops[i]? =some ⟨dst,.slice 22 x (some y) (some z) none,ty,pos,af,gd⟩)(t:Region.wanted ⟨dst,.slice 22 x (some y) (some z) none,ty,pos,af,gd⟩ (yielded ops a.tmps)=true){n c B p q:Nat}{k g:IntKind}{A:aft}{xs:afs}(C:a.eval x=.slice A n c)(D:a.eval y=.int k (p:Int))(E:a.eval z=.int g (q:Int))(r:Rd w B A n xs)(d:p<=q)(o:q<=n)(F:n<=c)(h:∀b,Rd w B b (q-p) ((xs.take q).drop p)->wY Tryz.prog ops Q mk K σ T (a.put dst (.slice b (q-p) (c-p))) w):wY Tryz.prog ops Q mk K (.cons i σ) T a w:=by refine tp m j t (v:=.slice (if c=p then A else A.map (·.add p)) (q-p) (c-p)) (fun w'=> ?_) (h _ ((r.upto o).cut d V));unfold execOp;simp only[uJ,vR,ua,C,D,E,xm,Option.map_none,Sx A n c p q d (show q<=c from V) k g]
end
def X5{xs:afs}{f a:Nat}{ts:afs}(h:(pk xs a).toNat<32):D0 xs (f+1) a ts=([],a,20):=by rw[D0,rG h]
def OS{xs:afs}{f a:Nat}{ts:afs}(h:pk xs a=34):D0 xs (f+1) a ts=(ts,a+1,0):=by rw[D0,rB (by rw[h];decide),rG h]
def OU{xs:afs}{f a:Nat}{ts:afs}(h:pk xs a=92):D0 xs (f+1) a ts=(if(xx xs (a+1)).2.2=0 then D0 xs f (xx xs (a+1)).1 (ts++(xx xs (a+1)).2.1)else([],(xx xs (a+1)).1,(xx xs (a+1)).2.2)):=by rw[D0,rB (by rw[h];decide),rB (by rw[h];decide),rG h]
def KU{xs:afs}{f a:Nat}{ts:afs}(b:¬(pk xs a).toNat<32)(d:¬pk xs a=34)(g:¬pk xs a=92):D0 xs (f+1) a ts=(if(Ut.wu (xs.drop a)).2.2=0 then D0 xs f (a+(Ut.wu (xs.drop a)).2.1) (ts++(xs.drop a).take (Ut.wu (xs.drop a)).2.1)else([],a+(Ut.wu (xs.drop a)).2.1,20)):=by rw[D0,rB b,rB d,rB g]
def OW(g:Nat)(A A':aft)(n c m d B a:Nat)(xs:afs)(w:World)(dd:xl w g A n c a 0 A' m d)(et:g<w.heap.size)(d5:Rd w B A n xs)(a7:B<=g)(f2:n<=100000000)(c9:n<=c)(e8:a<=n)(r:Nat)(Y:g<r)(e9:r<=w.heap.size)(d3:Own w r A' m d []):Calls Tryz.prog 191 #[sg g] w fun e' w'=>e'=.returned (.string ⟨(D0 xs (n+1-a) a []).1.toArray⟩)/\∃dp ef e4,xl w' g A n c (D0 xs (n+1-a) a []).2.1 (D0 xs (n+1-a) a []).2.2 dp ef e4/\sa g r w w':=by
 have f0:=d5.len;obtain⟨R,bz⟩:=sW (D0 xs (n+1-a) a []);rw[<-bz];have e0:=rz bz;have e1:=rz dd;have dz:=rz d3;clear bz dd d3;go_enter Tryz.func191,Tryz.ntmps191;go_wp2_with fail;go_loopw [3,4,5,6] (fun _ _ _ _ wr=>∃(b e j C:Nat)(v:aft)(ts:afs),b<=n/\ts.length<=4*b/\xl wr g A n c b e v j C/\Own wr r v j C ts/\((e=0/\∃f,n+1-b<=f/\R=D0 xs f b ts)\/(e≠0/\R=([],b,(e:Int))))/\sa g r w wr/\r<=wr.heap.size) (fun _ _ _ _ wr=>2*(n-TM wr g)+(match wr.cell? (rN g 2)with|some (.int _ 0)=>1|_=>0));case atStart=>exact⟨a,0,m,d,A',[],e8,bA,e1.out,dz.out,.inl ⟨rfl,_,rZ _,e0.out⟩,sa.refl _ _ _,e9⟩
 case
  round=>
   obtain⟨b,e,j,C,v,ts,hb,d8,b0,b2,ea,ad,f3⟩:=hrel;have a9:=d5.off ad V a7;have f1:=b2.len;have bO:=yK b0;rcases ea with⟨rfl,cZ,es,o⟩|⟨a1,o⟩
   ·obtain⟨f,rfl⟩:∃f,cZ=f+1:=⟨cZ-1,V⟩;have d2:(match wr.cell? (rN g 2)with|some (.int _ 0)=>1|_=>0)=1:=by rw[b0.1.2.2.1];rfl
    have Z:=b0;have b7:=rz bO;have b8:=rz d2;have d1:=(pk xs b).toNat_lt;obtain⟨⟨O,U,W,X⟩,I,L,M⟩:=b0;clear bO d2;by_cases c1:(pk xs b).toNat<32
    ·rw[X5 c1]at o;have a3:=rz o;have e3:((pk xs b).toNat:Int)<32:=V;clear o;go_wp2_with fail;refine sG (uF g A v n c j C B b 0 xs wr Z V a9 a7 V hb) fun F vb=> ?_
     have a6:=Z.below vb V;have ar:=b2.below vb;have b3:=a9.sV vb V;have be:r<=F.heap.size:=de;have an:=ad.trans (sa.of (vb.mono V));go_wp2_with fail;refine sG (uO g A v n c j C (b:Int) 0 20 F a6 V) fun bk ⟨bj,c8⟩=> ?_
     rw[rG rfl]at bj;have a8:=ar.off c8 (Y);have a5:=an.trans (c8.mono V);have b5:r<=bk.heap.size:=by have:=c8.size;omega
     clear a6;go_wp2_with fail;go_roundw;case rel=>exact⟨b,20,j,C,v,ts,hb,d8,bj,a8,.inr ⟨V,a3.out⟩,a5,b5⟩
     case measure=>rw[yK bj,b7.out,b8.out,bj.1.2.2.1];simp
    ·by_cases c2:pk xs b=34
     ·rw[OS c2]at o;have a3:=rz o;clear o;go_wp2_with fail;refine sG (uF g A v n c j C B b 0 xs wr Z V a9 a7 V hb) fun F vb=> ?_
      have a6:=Z.below vb V;have ar:=b2.below vb;have b3:=a9.sV vb V;have be:r<=F.heap.size:=de;have an:=ad.trans (sa.of (vb.mono V));rw[c2];obtain⟨⟨O,U,W,X⟩,I,L,M⟩:=a6;have em:=rz d8;go_upto_region 12 with fail;have a2:xl (F.setCell ⟨g,1,none⟩ (.int .i64 ((b:Int)+1))) g A n c ((b+1:Nat):Int) 0 v j C:=qg;have a8:=(ar.setAt (Y) 1 (.int .i64 ((b:Int)+1))).rd;have a5:=an.setAt 1 (.int .i64 ((b:Int)+1));generalize F.setCell _ _=bk at*;have cE:=a2;obtain⟨⟨O,U,W,X⟩,I,L,M⟩:=a2;obtain rfl:=a3.out;go_wp2_with(with_reducible refine zy rfl rfl a8 ?_);go_ret;first|exact⟨rfl,v,j,C,cE,a5⟩|exact⟨rfl,⟨v,j,C,cE⟩,a5⟩
     ·by_cases b1:pk xs b=92
      ·rw[OU b1]at o;have a3:=rz o;have en:b<n:=by
        rcases tE b n with h|h;·exact h
        ·exact absurd (show(0:UInt8)=92 by rw[<-b1];exact mJ) bH
       have eb:=Xf (xs:=xs) (a:=b+1) V;clear o;go_wp2_with fail;refine sG (uF g A v n c j C B b 0 xs wr Z V a9 a7 V hb) fun F vb=> ?_
       have a6:=Z.below vb V;have ar:=b2.below vb;have b3:=a9.sV vb V;have be:r<=F.heap.size:=de;have an:=ad.trans (sa.of (vb.mono V));rw[b1];obtain⟨⟨O,U,W,X⟩,I,L,M⟩:=a6;go_upto_region 15 with fail;have a2:xl (F.setCell ⟨g,1,none⟩ (.int .i64 ((b:Int)+1))) g A n c ((b+1:Nat):Int) 0 v j C:=qg;have a8:=ar.setAt (Y) 1 (.int .i64 ((b:Int)+1));have b4:=b3.sV ((Below.refl g F).setAt 1 (.int .i64 ((b:Int)+1))) a7;have a5:=an.setAt 1 (.int .i64 ((b:Int)+1));have b5:r<=(F.setCell ⟨g,1,none⟩ (.int .i64 ((b:Int)+1))).heap.size:=by simpa using be
       generalize F.setCell _ _=bk at*;go_wp2_with fail;refine sG (Oh g A v n c j C B (b+1) xs ts bk a2 V b4 a7 V c9 V r Y b5 a8 V) fun cy ⟨cA,df,cW,aa,d4,Cv⟩=> ?_
       obtain⟨f5,f6,f7,cx,di⟩:=eb;have d0:=a5.trans Cv;have d6:r<=cy.heap.size:=jS;generalize xx xs (b+1)=dx at*;obtain⟨cR,cS,el⟩:=dx;simp only at*;go_wp2_with fail;go_roundw;case
        rel=>
         rcases di with h|h;·subst h;have o:=a3.out;rw[rG rfl]at o;refine⟨cR,0,df,cW,cA,ts++cS,V,by rw[rL];have:=cx rfl;omega,aa,d4,.inl ⟨rfl,f,by have:=cx rfl;omega,o⟩,d0,d6⟩
         ·subst h;have o:=a3.out;rw[rB V]at o;exact⟨cR,20,df,cW,cA,ts++cS,V,ku,aa,d4,.inr ⟨V,o⟩,d0,d6⟩
       case
        measure=>
         rw[b8.out,b7.out,yK aa,aa.1.2.2.1];rcases di with h|h;·have:=cx h;subst h;simp;omega
         ·subst h;simp;omega
      ·rw[KU c1 c2 b1]at o;have a3:=rz o;have e3:¬((pk xs b).toNat:Int)<32:=V;have eg:(((pk xs b).toNat:Int)==34)=false:=rA.2 (fun e=>c2 (tU.1 (show(pk xs b).toNat=34 from V)));have eh:(((pk xs b).toNat:Int)==92)=false:=rA.2 (fun e=>b1 (tU.1 (show(pk xs b).toNat=92 from V)));have d7:=fun w1(h:Rd w1 B A n xs)=>Ut.M8 A n c B (b:Int) xs w1 h V V V
       rw[Ut.VX V,Ut.Pu V,Ut.VW V]at d7;clear o;go_wp2_with fail;refine sG (uF g A v n c j C B b 0 xs wr Z V a9 a7 V hb) fun F vb=> ?_
       have a6:=Z.below vb V;have ar:=b2.below vb;have b3:=a9.sV vb V;have be:r<=F.heap.size:=de;have an:=ad.trans (sa.of (vb.mono V));generalize(((pk xs b).toNat:Nat):Int)=ei at*;have ds:=rz a6;clear a6;go_wp2_with fail;refine sT [0,1,2,3,4,5,6,7,8,9,10,11,12,13,14,15] [8] bm bm bA bm bt (fun wd b9 tj=> ?_);have a2:=rz (ds.out.below b9 V);have a8:=ar.below (b9.mono rV);have b4:=b3.sV b9 V;have a5:=an.trans (sa.of (b9.mono V));have b5:r<=wd.heap.size:=V;repeat((first|(refine tm rfl rfl rfl bo ?_)|(refine tB rfl rfl rfl ?_)|(refine tH rfl rfl rfl (g+1) V _ (by intro w' hb;obtain⟨⟨z0,z1,f9,fb⟩,_,_,_⟩:=xl.below a2.out hb V;clear hb;go_simp;first|done|with_reducible rfl) ?_));simp only[Act.put,rH,rC,rF])
       refine tc rfl rfl (g+1) rV (fun aU G=> ?_);go_wp2_with fail;refine tZ (d7 wd b4) ?_;go_wp2_with fail;refine G _ _ xn ?_;refine ae ?_;refine sQ ?_;obtain⟨ek,e5,e6⟩:(Ut.wu (xs.drop b)).2.1<=n-b/\((Ut.wu (xs.drop b)).2.2=0->1<=(Ut.wu (xs.drop b)).2.1)/\((Ut.wu (xs.drop b)).2.2≠0->(Ut.wu (xs.drop b)).2.1=0):=by
        by_cases h:(Ut.wu (xs.drop b)).2.2=0;·have:=Ut.Dt h;rw[sU]at this;exact⟨V,fun _=>this.1,fun e7=>absurd h e7⟩
        ·rcases Ut.Ys h with e|e<;>rw[e]<;>simp
       generalize Ut.wu (xs.drop b)=e2 at*;obtain⟨f8,t,dj⟩:=e2;simp only at*;by_cases cv:dj=0
       ·subst cv;have d9:=e5 rfl;have o:=a3.out;rw[rG rfl]at o;have bs:=rz o;obtain⟨⟨O,U,W,X⟩,I,L,M⟩:=a2.out;have bn:=a2;have cc:=a8;have ci:=b4;have c4:=a5;have ed:=b5;clear o;go_wp2_with fail;refine sR (K:=vp (fun p=>p=⟨g,3,none⟩)) (vp.keeps _) (sA.of [0,1,2,3,5,6,7,8,9,10,11,12,13,14,4,15,16,17,18] .nil) [4,15,18] bm bm bF bm bt (fun cz a1 ec=> ?_);have WN:=rz (bn.out.below a1 V);have cf:=cc.below (a1.mono rV);have cj:=ci.sV a1 V;have c5:=c4.trans (sa.of (a1.mono V));have cr:r<=cz.heap.size:=V;iterate 13 ((first|(refine tp rfl rfl rfl bo ?_)|(refine tA rfl rfl rfl (g+1) V _ nl ?_));simp only[Act.put,rH,rC,rF])
        refine Uo (p:=b) (q:=b+t) rfl rfl rfl rfl rfl rfl cj V V c9 (fun dr ck=> ?_);simp only[Act.put,rH,rC,rF];obtain⟨⟨O,U,W,X⟩,I,L,M⟩:=WN.out;refine se rfl rfl (g+1) rV (fun aU G=> ?_);go_wp2_with fail;refine G _ _ (vp.refl _ _ _) ?_;refine se rfl rfl (g+1) rV (fun aU G=> ?_);go_wp2_with(at_builtin;refine zb rfl rfl cf rfl ck V cr ?_;intro D E a0 az a4);refine G _ _ (vp.of (a4.mono V)) ?_;have bv:j+(b+t-b)=j+t:=V;rw[bv]at az|-;have bx:(xs.take (b+t)).drop b=(xs.drop b).take t:=by rw[List.drop_take];congr 1;omega
        rw[bx]at az;have bp:=WN.out.below a4 (Y);have c6:=c5.trans (sa.of a4);have cs:r<=a0.heap.size:=by have:=a4.size;omega
        refine ah ?_;obtain⟨⟨O,U,W,X⟩,I,L,M⟩:=bp;refine se rfl rfl (g+1) rV (fun aU G=> ?_);go_wp2_with fail;refine G _ _ (vp.setCell a0 _ rfl) ?_;have br:xl (a0.setCell ⟨g,3,none⟩ (.slice D (j+t) E)) g A n c b 0 D (j+t) E:=⟨⟨bi,bi,bi,bi⟩,bi,bi,bi⟩;have ch:=az.setAt (Y) 3 (.slice D (j+t) E);have c7:=c6.setAt 3 (.slice D (j+t) E);have ct:r<=(a0.setCell ⟨g,3,none⟩ (.slice D (j+t) E)).heap.size:=by simpa using cs
        generalize a0.setCell _ _=b6 at*;refine sF ?_;obtain⟨⟨O,U,W,X⟩,I,L,M⟩:=br;go_wp2_with fail;have bw:((b+t:Nat):Int)=(b:Int)+t:=V;have ab:xl (b6.setCell ⟨g,1,none⟩ (.int .i64 ((b:Int)+t))) g A n c ((b+t:Nat):Int) 0 D (j+t) E:=by rw[bw];exact lP
        have cb:=ch.setAt (Y) 1 (.int .i64 ((b:Int)+t));have c3:=c7.setAt 1 (.int .i64 ((b:Int)+t));have cp:r<=(b6.setCell ⟨g,1,none⟩ (.int .i64 ((b:Int)+t))).heap.size:=by simpa using ct
        have d1:((xs.drop b).take t).length<=t:=by rw[zC];omega
        refine⟨⟨b+t,0,j+t,E,D,ts++(xs.drop b).take t,V,ku,ab,cb,.inl ⟨rfl,f,V,bs.out⟩,c3,cp⟩,?_⟩;rw[b8.out,b7.out,yK ab,ab.1.2.2.1];simp;omega
       ·have d9:=e6 cv;subst d9;have o:=a3.out;rw[rB cv]at o;have bs:=rz o;have f4:(((dj:Nat):Int) !=0)=true:=by simp;omega
        clear o;go_wp2_with fail;refine sG (uO g A v n c j C (b:Int) 0 20 wd a2.out V) fun cy ⟨aa,bd⟩=> ?_
        rw[rG rfl]at aa;have cc:=a8.off bd (Y);have ci:=b4.off bd V a7;have c4:=a5.trans (bd.mono V);have ed:r<=cy.heap.size:=by have:=bd.size;omega
        have bn:=rz aa;obtain⟨⟨O,U,W,X⟩,I,L,M⟩:=aa;go_wp2_with fail;refine sR (K:=vp (fun p=>p=⟨g,3,none⟩)) (vp.keeps _) (sA.of [0,1,2,3,5,6,7,8,9,10,11,12,13,14,4,15,16,17,18] .nil) [4,15,18] bm bm bF bm bt (fun cz a1 ec=> ?_);have WN:=rz (bn.out.below a1 V);have cf:=cc.below (a1.mono rV);have cj:=ci.sV a1 V;have c5:=c4.trans (sa.of (a1.mono V));have cr:r<=cz.heap.size:=V;iterate 13 ((first|(refine tp rfl rfl rfl bo ?_)|(refine tA rfl rfl rfl (g+1) V _ nl ?_));simp only[Act.put,rH,rC,rF])
        refine Uo (p:=b) (q:=b) rfl rfl rfl rfl rfl rfl cj V V c9 (fun dr ck=> ?_);simp only[Act.put,rH,rC,rF];obtain⟨⟨O,U,W,X⟩,I,L,M⟩:=WN.out;refine se rfl rfl (g+1) rV (fun aU G=> ?_);go_wp2_with fail;refine G _ _ (vp.refl _ _ _) ?_;refine se rfl rfl (g+1) rV (fun aU G=> ?_);go_wp2_with(at_builtin;refine zb rfl rfl cf rfl ck V cr ?_;intro D E a0 az a4);refine G _ _ (vp.of (a4.mono V)) ?_;have bv:j+(b-b)=j:=V;rw[bv]at az|-;have bx:(xs.take (b)).drop b=(xs.drop b).take 0:=by rw[List.drop_take];(try(congr 1;omega))
        rw[bx]at az;have bp:=WN.out.below a4 (Y);have c6:=c5.trans (sa.of a4);have cs:r<=a0.heap.size:=by have:=a4.size;omega
        refine ah ?_;obtain⟨⟨O,U,W,X⟩,I,L,M⟩:=bp;refine se rfl rfl (g+1) rV (fun aU G=> ?_);go_wp2_with fail;refine G _ _ (vp.setCell a0 _ rfl) ?_;have br:xl (a0.setCell ⟨g,3,none⟩ (.slice D (j) E)) g A n c b 20 D (j) E:=⟨⟨bi,bi,bi,bi⟩,bi,bi,bi⟩;have ch:=az.setAt (Y) 3 (.slice D (j) E);have c7:=c6.setAt 3 (.slice D (j) E);have ct:r<=(a0.setCell ⟨g,3,none⟩ (.slice D (j) E)).heap.size:=by simpa using cs
        generalize a0.setCell _ _=b6 at*;refine sF ?_;obtain⟨⟨O,U,W,X⟩,I,L,M⟩:=br;go_wp2_with fail;have bw:((b:Nat):Int)=(b:Int):=V;have ab:xl (b6.setCell ⟨g,1,none⟩ (.int .i64 ((b:Int)))) g A n c ((b:Nat):Int) 20 D (j) E:=by rw[bw];exact lP
        have cb:=ch.setAt (Y) 1 (.int .i64 ((b:Int)));have c3:=c7.setAt 1 (.int .i64 ((b:Int)));have cp:r<=(b6.setCell ⟨g,1,none⟩ (.int .i64 ((b:Int)))).heap.size:=by simpa using ct
        have d1:((xs.drop b).take 0).length<=0:=by rw[zC];omega
        refine⟨⟨b,20,j,E,D,ts++(xs.drop b).take 0,V,ku,ab,cb,.inr ⟨V,by have h:=bs.out;first|exact h|simpa using h⟩,c3,cp⟩,?_⟩;rw[b8.out,b7.out,yK ab,ab.1.2.2.1];simp<;>omega
   ·obtain rfl:=o;have er:(((e:Nat):Int)==0)=false:=by simp;omega
    have Z:=b0;obtain⟨⟨O,U,W,X⟩,I,L,M⟩:=b0;clear bO;go_wp2_with fail;go_ret;first|exact⟨rfl,v,j,C,Z,ad⟩|exact⟨rfl,⟨v,j,C,Z⟩,ad⟩
def zp{P:Program}{b:Func}{p:Tmp}{ty:TypeId}(h:b.results= #[.cell p ty])(d:Array Value)(w:World):(results b d).run P w=((asAddr (d.getD p undef)).run P w).andThen fun a g=>(loadVar ty a).run P g:=by simp only[results,h];simp[uJ,Result.andThen]
def Tc(k n:Int)(t:afs)(a b:Int):Value:=.agg #[.int .i64 k,.int .i64 n,.string ⟨t.toArray⟩,.int .i64 a,.int .i64 b]
def Q2(w:World)(g:Nat)(k n:Int)(t:afs)(a b:Int):Prop:=w.cell? (rN g 0)=some (.int .i64 k)/\w.cell? (rN g 1)=some (.int .i64 n)/\w.cell? (rN g 2)=some (.string ⟨t.toArray⟩)/\w.cell? (rN g 3)=some (.int .i64 a)/\w.cell? (rN g 4)=some (.int .i64 b)
def Qf(w:World)(g:Nat)(k n:Int)(t:afs)(a b:Int)(h:Q2 w g k n t a b):(loadVar 117 ⟨g,0,none⟩).run Tryz.prog w=.ok (Tc k n t a b) w:=by obtain⟨d,j,m,o,p⟩:=h;unfold Tc;go_simp
def Fq{d:Func}{p:Tmp}(h:d.results= #[.cell p 117]){j:Array Value}{w:World}{g:Nat}{k n:Int}{t:afs}{a b:Int}(m:j.getD p undef=sg g)(o:Q2 w g k n t a b):(results d j).run Tryz.prog w=.ok (Tc k n t a b) w:=by rw[zp h,m];simp only[asAddr,vR,ua];exact Qf w g k n t a b o
def MB(w:World):Calls Tryz.prog 194 #[] w (vh w (.agg #[.string ⟨#[116,114,117,101]⟩,.int .i64 7,.int .i64 1,.string ⟨#[102,97,108,115,101]⟩,.int .i64 7,.int .i64 0,.string ⟨#[110,117,108,108]⟩,.int .i64 8,.int .i64 0])):=by
 go_enter Tryz.func194,Tryz.ntmps194;go_wp2;refine sc (v:=.agg #[.string ⟨#[116,114,117,101]⟩,.int .i64 7,.int .i64 1,.string ⟨#[102,97,108,115,101]⟩,.int .i64 7,.int .i64 0,.string ⟨#[110,117,108,108]⟩,.int .i64 8,.int .i64 0]) ?_ rfl ⟨rfl,?_⟩;·rw[zp rfl];go_simp
 ·exact xn.al rV _
def xI:afs:=[123,125,91,93,58,44]
def SM(g:Nat)(A A':aft)(n c m d a i:Nat)(j:UInt8)(w:World)(v:xl w g A n c a 0 A' m d)(C:g<w.heap.size)(F:n<=100000000)(B:a<=n)(q:Lib.indexByte xI j=i)(D:i<6):Calls Tryz.prog 153 #[sg g,.int .u8 (j.toNat:Int)] w fun e' w'=>e'=.returned (Tc (1+i) 0 [] 0 0)/\xl w' g A n c ((a+1:Nat):Int) 0 A' m d/\Below g w w':=by
 have o:=fun w=>Tryz.strings_IndexByte ⟨xI.toArray⟩ (j.toNat:Int) w
 have p:(((j.toNat:Nat):Int)).toNat.toUInt8=j:=bA;simp only[p]at o;have r:∀w,Calls Tryz.prog 152 #[.string ⟨#[123,125,91,93,58,44]⟩,.int .u8 (j.toNat:Int)] w fun e w'=>e=.returned (.int .i64 (i:Int))/\w'=w:=fun w=>by have h:=o w;rw[<-q];exact h
 have E:=j.toNat_lt;obtain⟨⟨M,O,R,U⟩,G,I,L⟩:=v;go_enter GX,EV;go_wp2_with fail;go_step3;go_wp2_with fail;refine tZ (r _) ?_;go_wp2_with fail;rw[CN];refine sc (Fq (k:=1+i) (n:=0) (t:=[]) (a:=0) (b:=0) rfl rfl ⟨bi,bi,bi,bi,bi⟩) rfl ⟨rfl,?_,?_⟩;·exact pI
 ·exact dP
def Ye:∀c:UInt8,Lib.indexByte xI c= -1\/∃i:Nat,Lib.indexByte xI c=i/\i<6:=by
 have key:∀k:Fin 256,Lib.indexByte xI (UInt8.ofNat k.val)= -1\/(Lib.indexByte xI (UInt8.ofNat k.val)=((Lib.indexByte xI (UInt8.ofNat k.val)).toNat:Int)/\(Lib.indexByte xI (UInt8.ofNat k.val)).toNat<6):=bF;intro c;have h:=key ⟨c.toNat,c.toNat_lt⟩;simp only[xv]at h;rcases h with h|⟨b,d⟩;·exact .inl h
 ·exact .inr ⟨_,b,d⟩
def PA(g:Nat)(A:aft)(n c B a:Nat)(xs:afs)(w:World)(I:xl w g A n c a 0 none 0 0)(bd:g<w.heap.size)(a0:Rd w B A n xs)(F:B<=g)(Y:n<=100000000)(Z:n<=c)(W:a+1<=n):Calls Tryz.prog 153 #[sg g,.int .u8 34] w fun e' w'=>e'=.returned (Tc 10 0 (D0 xs (n+1-(a+1)) (a+1) []).1 0 0)/\(∃r D v,xl w' g A n c (D0 xs (n+1-(a+1)) (a+1) []).2.1 (D0 xs (n+1-(a+1)) (a+1) []).2.2 r D v)/\Below g w w':=by
 have X:∀w,Calls Tryz.prog 152 #[.string ⟨#[123,125,91,93,58,44]⟩,.int .u8 34] w fun e w'=>e=.returned (.int .i64 (-1))/\w'=w:=fun w=>Tryz.strings_IndexByte ⟨xI.toArray⟩ 34 w
 have C:=fun w1(O:xl w1 g A n c ((a+1:Nat):Int) 0 none 0 0) E U=>OW g A none n c 0 0 B (a+1) xs w1 O E U F Y Z W w1.heap.size E rV (Own.nil _ _)
 generalize D0 xs (n+1-(a+1)) (a+1) []=R at*;obtain⟨T,b2,b3⟩:=R;simp only at C|-;have M:=rz C;have b1:=I;obtain⟨⟨a8,a9,aa,ab⟩,a5,a6,a7⟩:=I;clear C;go_enter GX,EV;go_wp2_with fail;go_step3;go_wp2_with fail;refine tZ (X _) ?_;go_wp2_with fail;have L:xl ((w.setCell ⟨g,1,none⟩ (.int .i64 ((a:Int)+1))).alloc (wZ)) g A n c ((a+1:Nat):Int) 0 none 0 0:=pI;have G:Below g w ((w.setCell ⟨g,1,none⟩ (.int .i64 ((a:Int)+1))).alloc (wZ)):=dP;have a3:Q2 ((w.setCell ⟨g,1,none⟩ (.int .i64 ((a:Int)+1))).alloc (wZ)) w.heap.size 0 0 [] 0 0:=⟨bi,bi,bi,bi,bi⟩;have q:∀j,((w.setCell ⟨g,1,none⟩ (.int .i64 ((a:Int)+1))).alloc (wZ)).frozen? (rN w.heap.size j)=false:=fun j=>bi
 have a2:g<((w.setCell ⟨g,1,none⟩ (.int .i64 ((a:Int)+1))).alloc (wZ)).heap.size:=by simp;omega
 have o:w.heap.size<((w.setCell ⟨g,1,none⟩ (.int .i64 ((a:Int)+1))).alloc (wZ)).heap.size:=bA;have a1:=a0.sV G F;generalize((w.setCell _ _).alloc _)=ad at*;refine sG (M.out ad L a2 a1) fun bk ⟨r,D,v,a4,d⟩=> ?_
 have bj:=d.size;have m:¬w.heap.size=g:=V;have be:¬g=w.heap.size:=V;have b9:=G.trans (d.below (B':=g) V rV);obtain⟨an,ar,az,aU,b0⟩:=a3;have bn:=(d.cell (p:=rN w.heap.size 0) o m).trans an;have bp:=(d.cell (p:=rN w.heap.size 1) o m).trans ar;have br:=(d.cell (p:=rN w.heap.size 2) o m).trans az;have bs:=(d.cell (p:=rN w.heap.size 3) o m).trans aU;have bv:=(d.cell (p:=rN w.heap.size 4) o m).trans b0;have b4:=(d.frozen (p:=rN w.heap.size 0) o m).trans (q 0);have b5:=(d.frozen (p:=rN w.heap.size 1) o m).trans (q 1);have b6:=(d.frozen (p:=rN w.heap.size 2) o m).trans (q 2);have b7:=(d.frozen (p:=rN w.heap.size 3) o m).trans (q 3);have b8:=(d.frozen (p:=rN w.heap.size 4) o m).trans (q 4);obtain⟨⟨a8,a9,aa,ab⟩,a5,a6,a7⟩:=a4;go_wp2_with fail;rw[CN];refine sc (Fq (k:=10) (n:=0) (t:=T) (a:=0) (b:=0) rfl rfl ⟨bi,bi,bi,bi,bi⟩) rfl ⟨rfl,⟨r,D,v,⟨bi,bi,bi,bi⟩,bi,bi,bi⟩,?_⟩;exact pX
def Ww(g:Nat)(A A':aft)(n c m d B a:Nat)(xs:afs)(w:World)(M:xl w g A n c a 0 A' m d)(Y:g<w.heap.size)(Z:Rd w B A n xs)(C:B<=g)(a3:n<=100000000)(U:a<=n)(E:pk xs a=45\/vS (pk xs a)=true):Calls Tryz.prog 153 #[sg g,.int .u8 ((pk xs a).toNat:Int)] w fun e' w'=>e'=.returned (Tc 9 (RY xs a) [] 0 0)/\xl w' g A n c (Fl xs a) (WL xs a) A' m d/\Below g w w':=by
 have R:Lib.indexByte xI (pk xs a)= -1:=by have key:∀k:Fin 256,(UInt8.ofNat k.val=45\/vS (UInt8.ofNat k.val)=true)->Lib.indexByte xI (UInt8.ofNat k.val)= -1:=bF;have h:=key ⟨(pk xs a).toNat,(pk xs a).toNat_lt⟩;simp only[xv]at h;exact h E
 have D:=fun w=>Tryz.strings_IndexByte ⟨xI.toArray⟩ ((pk xs a).toNat:Int) w
 have X:((((pk xs a).toNat:Nat):Int)).toNat.toUInt8=pk xs a:=bA;simp only[X,R]at D;have q:∀w,Calls Tryz.prog 152 #[.string ⟨#[123,125,91,93,58,44]⟩,.int .u8 ((pk xs a).toNat:Int)] w fun e w'=>e=.returned (.int .i64 (-1))/\w'=w:=fun w=>D w
 have L:=fun w1(r:xl w1 g A n c a 0 A' m d) v o=>ON g A A' n c m d B a xs w1 r v o C V U
 have I:=fun w1=>zi (pk xs a) w1
 have a2:=(pk xs a).toNat_lt;have W:(((pk xs a).toNat:Int)=45)\/((((pk xs a).toNat:Int)==45)=false/\((((pk xs a).toNat:Int)==34)=false)/\vS (pk xs a)=true):=by
  by_cases h:pk xs a=45;·left;rw[h];rfl
  ·right;have F:=E.resolve_left h;have G:=F;unfold vS at G;simp only[sd]at G;exact⟨rA.2 V,rA.2 V,F⟩
 generalize RY xs a=ry at*;generalize Fl xs a=T at*;generalize WL xs a=a0 at*;have HN:=rz L;have O:=rz M;clear L M;have BX3:xl (w.alloc (wZ)) g A n c a 0 A' m d:=O.out.below ((afw w).al rV _) Y;have vb:Below g w (w.alloc (wZ)):=(Below.refl g w).alloc V _;have hw0:Q2 (w.alloc (wZ)) w.heap.size 0 0 [] 0 0:=⟨bi,bi,bi,bi,bi⟩;have hf0:∀j,(w.alloc (wZ)).frozen? (rN w.heap.size j)=false:=fun j=>bi
 have YZ:g<(w.alloc (wZ)).heap.size:=by simp;omega
 have WG:w.heap.size<(w.alloc (wZ)).heap.size:=bA;have hr3:=Z.sV vb C;rcases W with h|⟨r,v,o⟩;·rw[h]at q|-;go_enter GX,EV;go_wp2_with fail;go_step3;go_wp2_with fail;refine tZ (q _) ?_;exact lY
 ·rw[o]at I;generalize(((pk xs a).toNat:Nat):Int)=a1 at*;go_enter GX,EV;go_wp2_with fail;go_step3;go_wp2_with fail;refine tZ (q _) ?_;go_wp2_with fail;refine tZ (I _) ?_;exact lY
def zN(xs:afs)(a:Nat):Int×Int×Nat:=if Lib.hasPrefix (xs.drop a) [116,114,117,101]=true then(7,1,a+4)else if Lib.hasPrefix (xs.drop a) [102,97,108,115,101]=true then(7,0,a+5)else if Lib.hasPrefix (xs.drop a) [110,117,108,108]=true then(8,0,a+4)else(0,0,a)
def Jx(xs:afs)(a:Nat):Int:=if(zN xs a).1=0\/xd (pk xs (zN xs a).2.2)=true then 20 else 0
def Qo{l p:afs}(h:Lib.hasPrefix l p=true):p.length<=l.length:=by unfold Lib.hasPrefix at h;rw[List.isPrefixOf_iff_prefix]at h;exact h.length_le
structure Row(w:World)(X:afu)(k:Nat)(A:aft)(n:Nat)(uQ:List (List Value)):Prop where
 len:uQ.length=n
 pos:0<n->∃g p,A=some ⟨g,p,none⟩/\X g/\∀i cs,uQ[i]? =some cs->cs.length=k/\∀j u,cs[j]? =some u->w.cell? (rN g (p+(i*k+j)))=some u
def Row.nil(w:World)(X:afu)(k:Nat)(A:aft):Row w X k A 0 []:=⟨rfl,fun h=>absurd h V⟩
def Row.keep{w w':World}{X Y:afu}{k:Nat}{A:aft}{n:Nat}{d:List (List Value)}(h:Row w X k A n d)(B:∀q:Addr,X q.block->w'.cell? q=w.cell? q)(v:∀b,X b->Y b):Row w' Y k A n d:=⟨h.len,fun C=>by obtain⟨g,p,t,o,m⟩:=h.pos C;exact⟨g,p,t,v g o,fun i cs r=>⟨(m i cs r).1,fun j u D=>by rw[B _ o];exact(m i cs r).2 j u D⟩⟩⟩
def Row.xg{w:World}{r:Nat}{e:TypeId}{k:Nat}{A:aft}{n c:Nat}{d:List (List Value)}(h:w.ownsRow r e k (.slice A n c) n d.flatten)(o:∀cs∈d,cs.length=k)(F:0<k):Row w (fun b=>r<=b/\b<w.heap.size/\some b=A.map (·.block)) k A n d:=by
 have G:d.length=n:=by
  have p:=h.1;have C:d.flatten.length=d.length*k:=by
   clear h p;induction d with
   |nil=>simp
   |cons a l q=>rw[vo,rL,o a bA,q (fun cs hc=>o cs lC),rP,zF];omega
  rw[C]at p;exact Nat.eq_of_mul_eq_mul_right F p
 refine⟨G,fun L=> ?_⟩;obtain⟨g,cap,hv,hb,I⟩:=World.ownsRow.form h L;have D:A=some ⟨g,0,none⟩:=ia;subst D;refine⟨g,0,rfl,⟨hb,I,rfl⟩,fun i cs m=>⟨o cs (rU m),fun j u B=> ?_⟩⟩;have key:∀(l:List (List Value))(i:Nat),(∀cs∈l,cs.length=k)->l[i]? =some cs->l.flatten[i*k+j]? =some u:=by
  intro l;induction l with
  |nil=>intro i _ h;simp at h
  |cons a l q=>
   intro i v m;rw[vo];cases i with
   |zero=>simp at m;subst m;have E:j<a.length:=(rQ.1 B).1;rw[zG,tq,D8 E];exact B
   |succ i=>have t:=v a bA;rw[zg (by rw[t,zF];omega)];rw[show(i+1)*k+j-a.length=i*k+j by rw[t,zF];omega];exact q i (fun cs hc=>v cs lC) (by simpa using m)
 have:=World.ownsRow.cells (g:=g) h rfl (i*k+j) u (key d i o m);rw[yl]at this;exact this
inductive J where|mk (kind int:Int) (text:afs) (items:List J) (keys:List afs)
def J.kind:J->Int| .mk k _ _ _ _=>k
def J.int:J->Int| .mk _ i _ _ _=>i
def J.text:J->afs| .mk _ _ t _ _=>t
def J.items:J->List J| .mk _ _ _ l _=>l
def J.keys:J->List afs| .mk _ _ _ _ l=>l
def J.zero:J:=.mk 0 0 [] [] []
def sv(t:afs):Value:=.string ⟨t.toArray⟩
def uL(l:List afs):List (List Value):=l.map fun t=>[sv t]
inductive uq(w:World)(X:afu):List Value->J->Prop
 |mk {kind int:Int} {text:afs} {A A':aft} {n c n' c':Nat} {items:List J} {keys:List afs} {uQ:List (List Value)} (hr:Row w X 5 A n uQ) (hl:uQ.length=items.length) (hi:∀(i:Nat)(h:i<uQ.length)(h':i<items.length),uq w X uQ[i] items[i]) (hk:Row w X 1 A' n' (uL keys)) (hn:n<=c) (Xy:n'<=c') (hc:n<=100000000) (Xm:n'<=100000000):uq w X [.int .i64 kind,.int .i64 int,.string ⟨text.toArray⟩,.slice A n c,.slice A' n' c'] (.mk kind int text items keys)
def uq.keep{w w':World}{X Y:afu}{cs:List Value}{j:J}(h:uq w X cs j)(g:∀q:Addr,X q.block->w'.cell? q=w.cell? q)(d:∀b,X b->Y b):uq w' Y cs j:=by
 induction h with
 |mk hr hl _ ZR hn Xy hc Xm ih=>exact .mk (hr.keep g d) hl (fun i h m=>ih i h m) (ZR.keep g d) hn Xy hc Xm
def uq.stay{w w':World}{B:Nat}{X:afu}{cs:List Value}{j:J}(h:uq w X cs j)(hb:Below B w w')(d:∀b,X b->b<B):uq w' X cs j:=h.keep (fun _ g=>hb.cell (d _ g)) ug
def uq.xh{w w':World}{g B:Nat}{X:afu}{cs:List Value}{j:J}(h:uq w X cs j)(hb:sa g B w w')(d:∀b,X b->b<B/\b≠g):uq w' X cs j:=h.keep (fun _ m=>hb.cell (d _ m).1 (d _ m).2) ug
def uq.len{w:World}{X:afu}{cs:List Value}{j:J}(h:uq w X cs j):cs.length=5:=by cases h;rfl
def uq.zero(w:World)(X:afu):uq w X [.int .i64 0,.int .i64 0,.string ⟨#[]⟩,.slice none 0 0,.slice none 0 0] J.zero:=.mk (Row.nil w X 5 none) rfl (fun i h=>absurd h bA) (Row.nil w X 1 none) rV rV V V
structure Way{α:Type}(Is:World->(Nat->Prop)->List Value->α->Prop)(k:Nat):Prop where
 keep:∀{w w':World}{X Y:afu}{cs:List Value}{a:α},Is w X cs a->(∀q:Addr,X q.block->w'.cell? q=w.cell? q)->(∀b,X b->Y b)->Is w' Y cs a
 len:∀{w:World}{X:afu}{cs:List Value}{a:α},Is w X cs a->cs.length=k
 one:∀{w:World}{X:afu}{cs:List Value}{a:α},Is w X cs a->∀u∈cs,u.oneCell'=true
def uK{α:Type}(Is:World->(Nat->Prop)->List Value->α->Prop)(e:TypeId)(k:Nat)(S N:afu)(w:World)(H:Nat)(A:aft)(n c:Nat)(l:List α):Prop:=∃d:List (List Value),w.ownsRow H e k (.slice A n c) n d.flatten/\(∀cs∈d,cs.length=k)/\d.length=l.length/\(∀b,A.map (·.block)=some b->¬N b)/\∀(i:Nat)(h:i<d.length)(g:i<l.length),Is w (fun b=>(S b\/H<=b)/\b<w.heap.size/\A.map (·.block)≠some b/\¬N b) d[i] l[i]
def Lu(A:aft)(w w':World):Prop:=w.heap.size<=w'.heap.size/\∀b,b<w.heap.size->A.map (·.block)≠some b->w'.heap[b]? =w.heap[b]?
section
variable{α:Type}{Is:World->(Nat->Prop)->List Value->α->Prop}{e:TypeId}{k:Nat}{S N N':afu}{w w':World}{H n c:Nat}{A:aft}{l:List α}
def uK.nil(Is:World->(Nat->Prop)->List Value->α->Prop)(e:TypeId)(k:Nat)(S N:afu)(w:World)(H:Nat):uK Is e k S N w H none 0 0 []:=⟨[],uH w H e k,bA,rfl,fun b h=>ic,fun i h=>absurd h bA⟩
def uK.len(h:uK Is e k S N w H A n c l)(j:0<k):l.length=n:=by obtain⟨m,b,d,g,_⟩:=h;rw[<-g];exact(Row.xg b d j).len
def uK.cap(h:uK Is e k S N w H A n c l):n<=c:=by
 obtain⟨j,b,p,q,_⟩:=h;rcases b.2 with⟨d,o⟩|⟨g,cap,m,d,hb,r,b,_⟩;·omega
 ·injection d with _ _ hc;omega
def uK.block(h:uK Is e k S N w H A n c l):∀b,A.map (·.block)=some b->H<=b/\b<w.heap.size/\¬N b:=by
 obtain⟨o,g,p,q,j,_⟩:=h;intro b hb;have m:=j b hb;cases A with
 |none=>simp at hb
 |some d=>simp only[xm,sq]at hb;subst hb;have:=World.ownsRow.lt g d.block rfl;exact⟨this.1,this.2,m⟩
def uK.Ur(G:Way Is k)(h:uK Is e k S N w H A n c l)(W:w.heap.size<=w'.heap.size)(hb:∀b,(S b\/H<=b)->b<w.heap.size->¬N b->w'.heap[b]? =w.heap[b]?)(r:∀b,b<w.heap.size->N' b->N b):uK Is e k S N' w' H A n c l:=by
 have d:=h.block;obtain⟨v,p,C,D,U,E⟩:=h;refine⟨v,?_,C,D,fun b t=>fun m=>(d b t).2.2 (r b (d b t).2.1 m),fun i M O=> ?_⟩
 ·refine⟨p.1,?_⟩;rcases p.2 with h|⟨g,cap,B,hv,I,L,R⟩;·exact .inl h
  ·have F:A=some ⟨g,0,none⟩:=ia;have j:=d g (by rw[F];rfl);exact .inr ⟨g,cap,B,hv,I,(hb g (.inr j.1) j.2.1 j.2.2).trans L,R⟩
 ·exact G.keep (E i M O) (fun q o=>rK (w:=w) (hb q.block o.1 o.2.1 o.2.2.2)) (fun b hb=>⟨hb.1,V,hb.2.2.1,fun m=>hb.2.2.2 (r b hb.2.1 m)⟩)
def uK.grown(d:Way Is k)(h:uK Is e k S N w H A n c l)(g:w.heap.size<=w'.heap.size)(hb:∀b,(S b\/H<=b)->b<w.heap.size->¬N b->w'.heap[b]? =w.heap[b]?):uK Is e k S N w' H A n c l:=h.Ur d g hb fun _ _ h=>h
def uK.off(m:Way Is k)(h:uK Is e k S N w H A n c l){g:Nat}(d:sa g w.heap.size w w')(p:g<H)(j:¬S g):uK Is e k S N w' H A n c l:=h.grown m d.size fun b hb o _=>d.block b o (by rintro rfl;rcases hb with h|h;exact j h;omega)
def uK.below(g:Way Is k)(h:uK Is e k S N w H A n c l)(d:afv w w'):uK Is e k S N w' H A n c l:=h.grown g d.size fun b _ j _=>d.block b j
def uK.setAt(d:Way Is k)(h:uK Is e k S N w H A n c l){g:Nat}(j:g<H)(b:¬S g)(i:Nat)(u:Value):uK Is e k S N (w.setCell ⟨g,i,none⟩ u) H A n c l:=h.off d ((sa.refl g _ w).setAt i u) j b
def uK.DZ(o:Way Is k){A' d:aft}(h:uK Is e k S (fun b=>A'.map (·.block)=some b) w H A n c l)(g:Lu A' w w')(m:d.map (·.block)=A'.map (·.block)\/d.map (·.block)=some w.heap.size):uK Is e k S (fun b=>d.map (·.block)=some b) w' H A n c l:=h.Ur o g.1 (fun b _ j p=>g.2 b j p) fun b j hb=>
 by
  rcases m with h|h;·exact h▸hb
  ·rw[h]at hb;injection hb with hb;omega
def uK.row(p:Way Is k)(h:uK Is e k S N w H A n c l)(t:0<k):∃d,Row w (fun b=>(S b\/H<=b)/\b<w.heap.size) k A n d/\d.length=l.length/\∀(i:Nat)(h:i<d.length)(v:i<l.length),Is w (fun b=>(S b\/H<=b)/\b<w.heap.size) d[i] l[i]:=by obtain⟨d,g,j,m,_,o⟩:=h;exact⟨d,(Row.xg g j t).keep (fun _ _=>rfl) (fun b hb=>⟨.inr hb.1,hb.2.1⟩),m,fun i q r=>p.keep (o i q r) (fun _ _=>rfl) (fun b hb=>⟨hb.1,hb.2.1⟩)⟩
end
section
variable{P:Program}{α:Type}{Is:World->(Nat->Prop)->List Value->α->Prop}{e:TypeId}{k:Nat}{S N:afu}{w:World}{H n c:Nat}{A:aft}{l:List α}
def MS(hW:Way Is k){t ty:TypeId}{i:TypeInfo}{z:Value}{bytes:Nat}(a2:P.underlying t=some (.slice e))(X:P.info? e=some i)(a3:i.zero=some z)(a1:i.size=k)(U:i.bytes=bytes)(a4:z.cells.size=k)(Y:0<k)(hb:bytes<=1000)(h:uK Is e k S N w H A n c l){H1:Nat}{x:α}{cs:List Value}(hx:Is w (fun b=>(S b\/H1<=b)/\b<w.heap.size) cs x)(a7:H<=H1)(M:∀b,A.map (·.block)=some b->b<H1)(O:∀b,S b->b<H)(v:∀b,N b->b<H1/\b<w.heap.size/\¬S b){q:Nat}{cap:Nat}(hq:∀j u,cs[j]? =some u->w.cell? (rN q j)=some u)(o:n<=100000000)(C:H<=w.heap.size):∃g c2 w',(Builtin.append_ #[t,t] ty #[.slice A n c,.slice (some ⟨q,0,none⟩) 1 cap]).run P w=.ok (.slice g (n+1) c2) w'/\uK Is e k S N w' H g (n+1) c2 (l++[x])/\Below H w w'/\Lu A w w'/\(g.map (·.block)=A.map (·.block)\/g.map (·.block)=some w.heap.size):=by
 have Xl:=h.block;obtain⟨p,G,h2,I,L,h4⟩:=h;obtain⟨a5,w',a0,g2,r,a6,g5⟩:=vu (P:=P) w H t ty e i z k bytes a2 X a3 a1 U a4 Y (.slice A n c) n p.flatten G ⟨q,0,none⟩ 1 cap cs (by rw[hW.len hx];omega) (fun j u hu=>eS) (hW.one hx) dD eq C;have W:∃g c2,a5=.slice g (n+1) c2:=cU;obtain⟨g,c2,rfl⟩:=W;have Lz:∀(B:aft)(m d:Nat),(Value.slice B m d).ownBlock=B.map (·.block):=fun B m d=>eI
 rw[Lz,Lz]at g5;have R:Below H w w':=xn.grown r C fun b hb=>jP
 have hold:∀b,b<w.heap.size->A.map (·.block)≠some b->w'.heap[b]? =w.heap[b]?:=fun b hb Iy=>r.block b hb (fun he=>Iy fU)
 refine⟨g,c2,w',a0,⟨p++[cs],by rw[LK];simpa using g2,?_,by simp[I],?_,?_⟩,R,⟨r.size,hold⟩,g5⟩;·exact fV
 ·intro b hb o;rcases g5 with g5|g5;·rw[hb]at g5;exact L b g5.symm o
  ·rw[hb]at g5;injection g5 with g5;have:=(v b o).2.1;omega
 ·have hA2:∀b,b<w.heap.size->A.map (·.block)≠some b->g.map (·.block)≠some b:=fun b hb Iy he=>gS
  intro j D E;rw[rL]at D E;simp only[IH]at D E;have a8:=r.size;by_cases hlt:j<p.length;·exact ng
  ·have F:j=p.length:=V;subst F;have Iy:∀b,(S b\/H1<=b)/\b<w.heap.size->A.map (·.block)≠some b:=fun b hb he=>
    by
     rcases hb.1 with h|h;·have:=O b h;have:=(Xl b he).1;omega
     ·have:=M b he;omega
   have Z:∀b,(S b\/H1<=b)/\b<w.heap.size->¬N b:=fun b hb o=>
    by
     rcases hb.1 with h|h;·exact(v b o).2.2 h
     ·have:=(v b o).1;omega
   rw[uh rV,uh V];simp only[GS,List.getElem_singleton];exact hW.keep hx (fun q hq=>rK (w:=w) (hold q.block hq.2 (Iy _ hq))) (fun b hb=>⟨hb.1.imp id V,V,hA2 b hb.2 (Iy b hb),Z b hb⟩)
end
def nS(_:Nat):Prop:=False
def ve:Way uq 5:=⟨fun h d b=>h.keep d b,fun h=>h.len,fun h=>kl⟩
def Nn(_:World)(_:afu)(cs:List Value)(t:afs):Prop:=cs=[sv t]
def uz:Way Nn 1:=⟨fun h _ _=>h,fun h=>by rw[h];rfl,fun h=>by rw[h];simp[sv,Value.oneCell']⟩
def yP:(Tryz.prog.info? 60).map (fun i=>(i.zero,i.size,i.bytes))=some (some (jA 0 0 ⟨#[]⟩ none 0 0 none 0 0),5,80):=bm
def yQ:(Tryz.prog.info? 9).map (fun i=>(i.zero,i.size,i.bytes))=some (some (.string ⟨#[]⟩),1,16):=bm
section
variable{ops:Array Oper}{Q:Exit->Act->World->Prop}{rest:List Oper}{a:Act}{w:World}
def tn{t ty:TypeId}{α:Type}{Is:World->(Nat->Prop)->List Value->α->Prop}{e:TypeId}{k:Nat}{S N:afu}{H n c:Nat}{A:aft}{l:List α}{dst:Option Tmp}{s x:Operand}{pos:String}{af:Array Edge}{gd:Option (Nat×Bool)}(F:Region.wanted ⟨dst,.call {callee:=.builtin .append,args:= #[s,x],argTypes:= #[t,t]},ty,pos,af,gd⟩ (yielded ops a.tmps)=true){z:Value}{bytes:Nat}(E:Tryz.prog.underlying t=some (.slice e))(d:(Tryz.prog.info? e).map (fun i=>(i.zero,i.size,i.bytes))=some (some z,k,bytes))(O:z.cells.size=k)(B:0<k)(hb:bytes<=1000)(r:Way Is k)(hs:a.eval s=.slice A n c){q cap:Nat}(hx:a.eval x=.slice (some ⟨q,0,none⟩) 1 cap)(h:uK Is e k S N w H A n c l){H1:Nat}{y:α}{cs:List Value}(G:Is w (fun b=>(S b\/H1<=b)/\b<w.heap.size) cs y)(m:H<=H1)(g:∀b,A.map (·.block)=some b->b<H1)(p:∀b,S b->b<H)(o:∀b,N b->b<H1/\b<w.heap.size/\¬S b)(D:∀j u,cs[j]? =some u->w.cell? (rN q j)=some u)(C:n<=100000000)(v:H<=w.heap.size)(hh:∀A2 c2 w',uK Is e k S N w' H A2 (n+1) c2 (l++[y])->Below H w w'->Lu A w w'->(A2.map (·.block)=A.map (·.block)\/A2.map (·.block)=some w.heap.size)->wpList Tryz.prog ops Q rest (a.put dst (.slice A2 (n+1) c2)) w'):wpList Tryz.prog ops Q (⟨dst,.call {callee:=.builtin .append,args:= #[s,x],argTypes:= #[t,t]},ty,pos,af,gd⟩::rest) a w:=by
 obtain⟨R,d,I,L,M⟩:=xG d;refine tG F fun K hK=> ?_
 obtain⟨A2,c2,w',IS,h2,h3,h4,h5⟩:=MS (P:=Tryz.prog) (ty:=ty) r E d I L M O B hb h G m g p o (cap:=cap) D C v;exact cB
end
end Go.Proofs.YtccjlcadbpinfaaGreatDoor.Tp
namespace Go.Proofs.YtccjlcadbpinfaaGreatDoor.Pro
open ChangeShapes WideShapes ChangeAt RowKit
open Num Zg ZgW ProN Mem
section
variable(u:Nat)(n:Int)(d g m s b bias digits:Nat)(w:World)
def Pb:Calls Tryz.prog 262 #[.int .u64 u,.int .u64 0] w (zW w (.int .u64 u)):=by go_enter QZ,Nq;exact nf
def Sp(g:64<d)(w:World):Calls Tryz.prog 262 #[.int .u64 u,.int .u64 d] w (zW w (.int .u64 0)):=by
 have b:((d:Int)==0)=false:=by simp;omega
 go_enter QZ,Nq;exact nf
def Sq(v:1<=d)(L:d<=63)(F:u<=18446744073709551615)(w:World):Calls Tryz.prog 262 #[.int .u64 u,.int .u64 d] w (zW w (.int .u64 (LA u d))):=by
 have I:((d:Int)==0)=false:=by simp;omega
 have M:((d:Int)==64)=false:=by simp;omega
 have o:=NQ u d F;have D:=Us d v V;have p:∀q:Nat,q<=u->bits BinOp.and IntKind.u64 (q:Int) 1=(q:Int)%2:=fun q B=>VT _ V V
 have g:=p (u/2^d) (Nat.div_le_self _ _);clear p;have E:=div_val u d;have B:u/2^d<=9223372036854775807:=by have:u/2^d<=u/2^1:=Nat.div_le_div_left (Nat.pow_le_pow_right V v) V;omega
 have b:LA u d=if 2^(d-1)<u%2^d\/(u%2^d=2^(d-1)/\u/2^d%2=1)then u/2^d+1 else u/2^d:=by unfold LA;rw[rB V,rB V]
 generalize LA u d=R at b|-;generalize u/2^d=q at b B o g E;generalize u%2^d=r at b o;have t:(((q:Nat):Int)%2)=((q%2:Nat):Int):=V;rw[t]at g;generalize q%2=m at b g;generalize 2^(d-1)=H at b D;clear t;rcases Nat.lt_trichotomy H r with h|h|h;·rw[rG (.inl h)]at b;have HR:=rz b;clear b;have G:(H:Int)<(r:Int):=V;exact iN
 ·subst h;by_cases j:m=1
  ·rw[rG (.inr ⟨rfl,j⟩)]at b;have HR:=rz b;have C:((m:Int)==1)=true:=by simp;omega
   clear b j;exact iN
  ·rw[rB V]at b;have HR:=rz b;have C:((m:Int)==1)=false:=by simp;omega
   clear b j;exact jb
 ·rw[rB V]at b;have HR:=rz b;clear b;have G:¬(H:Int)<(r:Int):=V;have C:((r:Int)==(H:Int))=false:=by simp;omega
  exact jb
def Vu(g:u<=18446744073709551615)(w:World):Calls Tryz.prog 262 #[.int .u64 u,.int .u64 64] w (zW w (.int .u64 (LA u 64))):=by
 have b:LA u 64=if 9223372036854775808<u then 1 else 0:=by unfold LA;rw[rB V,rB V,show(2:Nat)^64=18446744073709551616 by rfl,show(2:Nat)^(64-1)=9223372036854775808 by rfl,Nat.mod_eq_of_lt V,Tr V];simp
 generalize LA u 64=R at b|-;by_cases h:9223372036854775808<u;·rw[rG h]at b;have HR:=rz b;clear b;go_enter QZ,Nq;go_wp2;go_ret;exact⟨AZ dA,rfl⟩
 ·rw[rB h]at b;have HR:=rz b;clear b;have d:bits BinOp.and IntKind.u64 0 1=0:=bF;go_enter QZ,Nq;go_wp2;all_goals go_ret
  all_goals exact⟨AZ dA,rfl⟩
def Sn(j:u<=18446744073709551615)(w:World):Calls Tryz.prog 262 #[.int .u64 u,.int .u64 d] w (zW w (.int .u64 (LA u d))):=by
 by_cases b:d=0
 ·subst b;have:LA u 0=u:=by unfold LA;rw[rG rfl]
  rw[this];exact Pb u w
 ·by_cases g:64<d
  ·have:LA u d=0:=by unfold LA;rw[rB b,rG g]
   rw[this];exact Sp u d g w
  ·by_cases m:d=64;·subst m;exact Vu u j w
   ·exact Sq u d V V j w
def aam(d:w.cell? (rN g 0)=some (.int .u64 m))(j:w.frozen? (rN g 0)=false)(b:m*2^s<=18446744073709551615)(o:s<=60):Calls Tryz.prog 261 #[.int .i64 s,sg g] w fun e w'=>e=.returned (.tuple #[])/\w.setCell ⟨g,0,none⟩ (.int .u64 (m*2^s:Nat))=w':=by
 have e:IntKind.u64.wrap ((m:Int)*2^s)=((m*2^s:Nat):Int):=by rw[wrap_u64,show((2:Int)^s)=((2^s:Nat):Int)from bA,<-Int.natCast_mul];omega
 generalize m*2^s=v at e b|-;go_enter Tryz.func261,Tryz.ntmps261;go_wp2;refine sc (tR rfl _ _ _) rfl ?_;exact bK
def Vm(d:w.cell? (rN g 0)=some (.int .u64 m))(j:w.frozen? (rN g 0)=false)(b:m<=18446744073709551615)(o:s<=64)(p:1<=s):Calls Tryz.prog 261 #[.int .i64 (-(s:Int)),sg g] w fun e w'=>e=.returned (.tuple #[])/\w.setCell ⟨g,0,none⟩ (.int .u64 (LA m s))=w':=by have q:¬(0:Int)<= -(s:Int):=V;go_enter Tryz.func261,Tryz.ntmps261;go_wp2_with fail;refine tZ (Sn m s b _) ?_;go_wp2_with fail;go_end0;exact bK
def xr(b:w.cell? (rN g 0)=some (.int .u64 m))(d:w.frozen? (rN g 0)=false)(r:m<=9223372036854775808)(j:0<m)(p:digits<=52):Calls Tryz.prog 261 #[.int .i64 ((digits:Int)-(high m:Int)),sg g] w fun e w'=>e=.returned (.tuple #[])/\w.setCell ⟨g,0,none⟩ (.int .u64 (Gi m digits))=w':=by
 have q:=Cj (u:=m) (k:=63) j V;have hb:=KN m digits;by_cases h:high m<=digits
 ·have e:Gi m digits=m*2^(digits-high m):=by unfold Gi;rw[rG h]
  rw[e]at hb|-;rw[show(digits:Int)-(high m:Int)=((digits-high m:Nat):Int)from V];refine aam g m _ w b d ?_ V;have o:2^(digits+1)<=2^53:=Nat.pow_le_pow_right V V;omega
 ·have e:Gi m digits=LA m (high m-digits):=by unfold Gi;rw[rB h]
  rw[e];rw[show(digits:Int)-(high m:Int)= -((high m-digits:Nat):Int)from V];exact Vm g m _ w b d V V V
def TU(h0:0<u)(t:n.natAbs=u)(E:n<0)(h1:u<=9223372036854775808)(F:d<=9223372036854775808)(hb:bias<=1023)(C:1<=bias)(hd:digits<=52)(w:World):Calls Tryz.prog 245 #[.int .i64 n,.int .u64 d,.int .i64 bias,.int .i64 digits] w (vh w (.int .u64 (d+UT u bias digits:Nat))):=by
 have D:∀(g:Fn)(first cap:Array Value)(w:World),(Instr.makeFunc g first cap).run Tryz.prog w=.ok (.func g first cap) w:=fun _ _ _ _=>rfl
 have j:=H3 (u:=u) V;have p:=Cj (u:=u) (k:=63) V V;have HN:=rz j;have q:=UU (u:=u) (bias:=bias) (digits:=digits) p hb hd;have b:UT u bias digits=(bias+high u-1)*2^digits+Gi u digits:=rfl;have m:∀X:Int,X=((bias+high u-1:Nat):Int)->IntKind.u64.wrap (X*2^digits)=(((bias+high u-1)*2^digits:Nat):Int):=ob;have r:=m ((bias:Int)+(high u:Int)-1) V;clear m;generalize(bias+high u-1)*2^digits=o at b r;have HMG:=rz b;have B:o+Gi u digits<9223372036854775808:=V;clear j b q;have G:(n==0)=false:=by simp;omega
 have v:IntKind.u64.wrap (-IntKind.u64.wrap n)=(u:Int):=by rw[wrap_u64,wrap_u64];omega
 clear t;exact mP
def TV(h0:0<u)(v:n.natAbs=u)(E:0<n)(h1:u<=9223372036854775808)(_hs:m<=9223372036854775808)(hb:bias<=1023)(C:1<=bias)(hd:digits<=52)(w:World):Calls Tryz.prog 245 #[.int .i64 n,.int .u64 m,.int .i64 bias,.int .i64 digits] w (vh w (.int .u64 (UT u bias digits:Nat))):=by
 have D:∀(d:Fn)(first cap:Array Value)(w:World),(Instr.makeFunc d first cap).run Tryz.prog w=.ok (.func d first cap) w:=fun _ _ _ _=>rfl
 have g:=H3 (u:=u) V;have q:=Cj (u:=u) (k:=63) V V;have HN:=rz g;have r:=UU (u:=u) (bias:=bias) (digits:=digits) q hb hd;have b:UT u bias digits=(bias+high u-1)*2^digits+Gi u digits:=rfl;have j:∀X:Int,X=((bias+high u-1:Nat):Int)->IntKind.u64.wrap (X*2^digits)=(((bias+high u-1)*2^digits:Nat):Int):=ob;have t:=j ((bias:Int)+(high u:Int)-1) V;clear j;generalize(bias+high u-1)*2^digits=o at b t;have HMG:=rz b;have B:o+Gi u digits<9223372036854775808:=V;clear g b r;have F:(n==0)=false:=by simp;omega
 have p:n=(u:Int):=V;clear v;subst p;exact mP
def Rb:Calls Tryz.prog 245 #[.int .i64 0,.int .u64 b,.int .i64 bias,.int .i64 digits] w (vh w (.int .u64 0)):=by go_enter Tryz.func245,Tryz.ntmps245;go_wp2;go_ret;exact oP
def Jg(m: -9223372036854775808<=n)(o:n<=9223372036854775807)(j:b<=9223372036854775808)(hb:bias<=1023)(d:1<=bias)(g:digits<=52)(w:World):Calls Tryz.prog 245 #[.int .i64 n,.int .u64 b,.int .i64 bias,.int .i64 digits] w (vh w (.int .u64 (Ej n b bias digits))):=by
 rcases Int.lt_trichotomy n 0 with h|h|h
 ·have e:Ej n b bias digits=b+UT n.natAbs bias digits:=by unfold Ej;rw[rB V,rG h]
  rw[e];exact TU n.natAbs n b bias digits V rfl h V j hb d g w
 ·subst h;exact Rb b bias digits w
 ·have e:Ej n b bias digits=UT n.natAbs bias digits:=by unfold Ej;rw[rB V,rB V,tq]
  rw[e];exact TV n.natAbs n b bias digits V rfl h V j hb d g w
def dbl(n:Int):Nat:=Ej n 9223372036854775808 1023 52
def flt(n:Int):Nat:=Ej n 2147483648 127 23
def ZG(d: -9223372036854775808<=n)(g:n<=9223372036854775807):flt n<4294967296:=by
 unfold flt Ej;by_cases b:n=0;·rw[rG b];omega
 ·rw[rB b];have:=UW (u:=n.natAbs) (Cj (k:=63) V V);split<;>omega
def Oe(b: -9223372036854775808<=n)(d:n<=9223372036854775807)(w:World):Calls Tryz.prog 234 #[.int .i64 n] w (vh w (.int .u64 (dbl n))):=by
 go_enter Tryz.func234,Tryz.ntmps234;go_wp2_with fail;refine sG (Jg n 9223372036854775808 1023 52 b d V V V V _) fun w' g=> ?_
 go_wp2_with fail;go_ret;exact⟨rfl,g⟩
def Rp(b: -9223372036854775808<=n)(d:n<=9223372036854775807)(w:World):Calls Tryz.prog 233 #[.int .i64 n] w (vh w (.int .u32 (flt n))):=by
 have m:=ZG n b d;have g:Ej n 2147483648 127 23=flt n:=rfl;go_enter Tryz.func233,Tryz.ntmps233;go_wp2_with fail;refine sG (Jg n 2147483648 127 23 b d V V V V _) fun w' j=> ?_
 rw[g];clear g;go_wp2_with fail;go_ret;exact⟨rfl,j⟩
end
