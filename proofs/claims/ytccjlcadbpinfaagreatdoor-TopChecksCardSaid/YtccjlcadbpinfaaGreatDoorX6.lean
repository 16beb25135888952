import Derived.Test.YtccjlcadbpinfaaGreatDoorX4
set_option linter.all false
set_option maxRecDepth 100000
set_option maxHeartbeats 16000000
namespace Go.Proofs.YtccjlcadbpinfaaGreatDoor.Tp
open ChangeShapes WideShapes ChangeAt RowKit
open Num Mem Can
def KM(xs:afs)(w:Wd)(ks:List afs):Except Int Wd:=if w.kind≠10 then .error 20 else if ks.contains w.text=true then .error 23 else match sH xs w.next with
 | .error e=>.error e
 | .ok wc=>if wc.kind≠5 then .error 20 else .ok wc
def WE(xs:afs)(m a:Nat):Except Int Wd->Option (Except Int (J×Nat))
 | .error e=>some (.error e)
 | .ok wc=>match sH xs wc.next with
  | .error e=>some (.error e)
  | .ok d=>wU xs m d a
def Kr(xs:afs)(m g:Nat)(w:Wd)(l:List J)(ks:List afs):Ae xs (m+1) w g l ks=match WE xs m g (KM xs w ks)with
 |none=>none
 |some (.error e)=>some (.error e)
 |some (.ok (j,a))=>match sH xs a with
  | .error e=>some (.error e)
  | .ok d=>if d.kind=2 then some (.ok (.mk 6 0 [] (l++[j]) (ks++[w.text]),d.next))else if d.kind=6 then(match sH xs d.next with| .error e=>some (.error e)| .ok n=>Ae xs m n g (l++[j]) (ks++[w.text]))else some (.error 20):=by
 rw[Ae];unfold KM;by_cases h:w.kind≠10;·simp only[rG h,WE]
 ·simp only[rB h];by_cases i:ks.contains w.text=true;·simp only[rG i,WE]
  ·simp only[rB i];cases sH xs w.next with
   |error e=>rfl
   |ok wc=>
    simp only;by_cases k:wc.kind≠5;·simp only[rG k,WE]
    ·simp only[rB k,WE];cases sH xs wc.next with
     |error e=>rfl
     |ok o=>rfl
def KL(w:Wd)(ks:List afs):Int:=if w.kind≠10 then 20 else if ks.contains w.text=true then 23 else 0
def UI(xs:afs)(w:Wd)(ks:List afs):(∀e,KM xs w ks=.error e->(Dz xs w.next (KL w ks) w 5).2.1=e/\e≠0)/\(∀wc,KM xs w ks=.ok wc->(Dz xs w.next (KL w ks) w 5).2.1=0/\(Dz xs w.next (KL w ks) w 5).1=wc.next/\sH xs w.next=.ok wc):=by
 unfold KM KL;by_cases d:w.kind≠10;·simp only[rG d];exact oH
 ·simp only[rB d];by_cases g:ks.contains w.text=true;·simp only[rG g];exact oH
  ·simp only[rB g];cases a:sH xs w.next with
   |error e=>have j:=wB a;exact⟨fun e h=>by injection h with h;subst h;simp[Dz,D1,a,Cw,Gm,j],fun wc h=>dM⟩
   |ok wc=>
    simp only;by_cases h3:wc.kind≠5;·simp only[rG h3];exact⟨fun e h=>by injection h with h;subst h;simp[Dz,D1,a,Cw,Gm,h3],fun wc h=>dM⟩
    ·simp only[rB h3];have i:wc.kind=5:=kY;exact⟨fR,fun wc h=>by injection h with h;subst h;simp[Dz,D1,a,Cw,Gm,JL,i]⟩
def RN(g:Nat)(A:aft)(n c B m k:Nat)(xs:afs)(v:Wd)(ks:List afs)(z:Except Int (J×Nat))(I:I7 xs g A n c B m)(T:v.next<=n)(O:xs.length=n)(L:k<=32)(i:WE xs m k (KM xs v ks)=some z):∀p l D,(p,l,D)=Dz xs v.next (KL v ks) v 5->(l=0->p<=n)/\∀x q o y,(x,q,o,y)=D1 xs p l D->∀w1,CD w1 g A n c q o y->g<w1.heap.size->Rd w1 B A n xs->Calls Tryz.prog 51 #[sg g,.int .i64 x,.int .i64 (k:Int)] w1 (Eb xs g A n c z w1):=by
 obtain⟨F,G⟩:=UI xs v ks;intro p l D H;rw[<-H]at F G;cases r:KM xs v ks with
 |error e=>obtain⟨d,C⟩:=F e r;simp only at d;subst d;rw[r]at i;simp only[WE,sq]at i;subst i;refine⟨fun h=>absurd h C,fun x q o y a w1 d j E=> ?_⟩;unfold D1 at a;rw[rB C]at a;simp only[Prod.mk.injEq]at a;obtain⟨rfl,rfl,rfl,rfl⟩:=a;exact Ip g A n c _ k _ xs _ w1 d C j
 |ok wc=>
  obtain⟨d,j,M⟩:=G wc r;simp only at d j;subst d j;have N:=y9 V M;rw[r]at i;refine⟨fun _=>V,fun x q o y a w1 d j E=> ?_⟩;unfold D1 at a;rw[rG rfl]at a;simp only[WE]at i;cases t:sH xs wc.next with
  |error e=>rw[t]at i a;simp only[sq]at i;subst i;simp only[Prod.mk.injEq,Cw,JL,Gm,Li]at a;obtain⟨rfl,rfl,rfl,rfl⟩:=a;exact Ip g A n c _ k _ xs _ w1 d (wB t) j
  |ok U=>rw[t]at i a;simp only[Prod.mk.injEq,Cw,JL,Gm,Li]at a;obtain⟨rfl,rfl,rfl,rfl⟩:=a;exact I _ k w1 z i d j E (by have:=y9 V t;omega) L
def ObI(xs:afs)(g:Nat)(A:aft)(n c p o H F:Nat)(R:Except Int (J×Nat))(m:Nat)(s:Value)(wr:World):Prop:=(∃(wd:Wd)(l:List J)(ks:List afs)(d:aft)(i c1:Nat)(h:aft)(j c2:Nat),s=.int .i64 wd.kind/\CD wr g A n c wd.next 0 wd/\vW wr o 6 0 ⟨#[]⟩ d i c1 h j c2/\uK uq 60 5 nS (fun b=>h.map (·.block)=some b) wr H d i c1 l/\uK Nn 9 1 nS (fun b=>d.map (·.block)=some b) wr H h j c2 ks/\Ae xs m wd p l ks=some R/\wd.next<=n/\m+l.length<=F/\ks.length=l.length)\/(m=0/\∃(k e:Int)(a:Nat)(wd:Wd)(d:aft)(i c1:Nat)(h:aft)(j c2:Nat),s=.int .i64 k/\R=.error e/\e≠0/\CD wr g A n c a e wd/\vW wr o 6 0 ⟨#[]⟩ d i c1 h j c2)
def U7(g:Nat)(A:aft)(n c B a f bv:Nat)(xs:afs)(wd:Wd)(w:World)(R:Except Int (J×Nat))(gz:∀m,m<f->I7 xs g A n c B m)(ir:f<=100000000)(gx:MK xs f a bv=some R)(ho:CD w g A n c a 0 wd)(hQ:g<w.heap.size)(dp:Rd w B A n xs)(b8:B<=g)(e8:n<=100000000)(e9:n<=c)(hN:a<=n)(hP:bv<=32):Calls Tryz.prog 104 #[sg g,.int .i64 (bv:Int)] w (Eb xs g A n c R w):=by
 have hX:=dp.len;have g7:=rz gx;have hH:=rz gz;clear gx gz;go_enter Tryz.func104,Tryz.ntmps104;go_upto_region 3 with fail;have es:=((afw w).al rV (jZ)).alloc bA (jC 6 0 ⟨#[]⟩ none 0 0 none 0 0);have g4:=ho.below es hQ;have gd:=(vW.new w 0 0 ⟨#[]⟩ none 0 0 none 0 0 w.heap.size rfl).below (xn.alloc rV (jC 6 0 ⟨#[]⟩ none 0 0 none 0 0)) bA;have gb:=vW.new (w.alloc (jZ)) 6 0 ⟨#[]⟩ none 0 0 none 0 0 (w.heap.size+1) bA;have k0:w.heap.size+1<((w.alloc (jZ)).alloc (jC 6 0 ⟨#[]⟩ none 0 0 none 0 0)).heap.size:=bA;have fS:=dp.sV es V;generalize(w.alloc _).alloc _=w1 at*;go_wp2_with fail;refine sG (yz g A n c B a xs wd w1 g4 V fS b8 e8 e9 hN) fun O ⟨cA,di⟩=> ?_
 have k2:=di.size;have f8:=gd.off di V V;have en:=gb.off di V V;have Nt:sa g w.heap.size w O:=(sa.of es).trans (di.mono V);have jk:=fS.off di V b8;have b0:MK xs f a bv=some R:=g7.out;clear g7 g4 gd gb fS es ho;obtain⟨f,rfl⟩:∃hJ,f=hJ+1:=by cases f with|zero=>simp[MK]at b0|succ f=>exact⟨f,rfl⟩
 unfold MK at b0;have fj:∀e,sH xs a=.error e->e≠0:=fun e h=>wB h
 have et:=fun v h=>y9 (xs:=xs) (a:=a) (wd:=v) V h
 by_cases h4:(Cw (sH xs a)).kind=2
 ·obtain⟨v,hl⟩:∃v,sH xs a=.ok v:=fZ;rw[hl]at b0 h4 cA|-;simp only[Cw]at h4;simp only[rG h4,sq]at b0;subst b0;have ZV:=et v hl;simp only[Cw,JL,Gm,Li,h4]at cA|-;clear fj et;have az:=en;have eh:=f8;obtain⟨⟨aa,ab,ad,af,an⟩,L⟩:=az;obtain⟨⟨hy,hz,hA,hB,hC⟩,hD⟩:=eh;go_wp2_with fail;have Ck:sa w.heap.size O.heap.size O (((((O.setCell ⟨w.heap.size,0,none⟩ (.int .i64 6)).setCell ⟨w.heap.size,1,none⟩ (.int .i64 0)).setCell ⟨w.heap.size,2,none⟩ (.string ⟨#[]⟩)).setCell ⟨w.heap.size,3,none⟩ (.slice none 0 0)).setCell ⟨w.heap.size,4,none⟩ (.slice none 0 0)):=((((((sa.refl _ _ _).setAt 0 _).setAt 1 _).setAt 2 _).setAt 3 _).setAt 4 _);refine sc (uX (k:=6) (i:=0) (t:=⟨#[]⟩) (A:=none) (n:=0) (c:=0) (A':=none) (n':=0) (c':=0) rfl rfl ⟨bi,bi,bi,bi,bi⟩) rfl ?_;refine⟨6,0,⟨#[]⟩,none,0,0,none,0,0,rfl,KK (N:=nS) (N':=nS) (uK.nil _ 60 _ _ _ _ _) (uK.nil _ 9 _ _ _ _ _) rV V V,?_,?_⟩;·exact⟨v.next,v,cA.off Ck V V,(fun j a' h=>jK),fR⟩
  ·exact mw
 ·have ii:((Cw (sH xs a)).kind==2)=false:=rA.2 h4;have e5:∃m,ObI xs g A n c bv (w.heap.size+1) O.heap.size f R m (.int .i64 (Cw (sH xs a)).kind) O:=by
   cases hT:sH xs a with
   |error e=>rw[hT]at b0 cA;simp only[sq]at b0;exact⟨0,.inr ⟨rfl,0,e,a,wd,none,0,0,none,0,0,rfl,b0.symm,fj e hT,cA,en⟩⟩
   |ok v=>rw[hT]at b0 cA h4;simp only[Cw]at h4;simp only[rB h4]at b0;exact⟨f,.inl ⟨v,[],[],none,0,0,none,0,0,rfl,cA,en,uK.nil _ _ _ _ _ _ _,uK.nil _ _ _ _ _ _ _,b0,by have:=et v hT;omega,bA,rfl⟩⟩
  generalize(Cw (sH xs a)).kind=K at*;clear cA en fj et b0 h4 di;have g5:=rz e5;clear e5;go_wp2_with fail;go_loopw [7,8] (fun s kb wr=>vW wr w.heap.size 0 0 ⟨#[]⟩ none 0 0 none 0 0/\sa g w.heap.size w wr/\O.heap.size<=wr.heap.size/\∃m,ObI xs g A n c bv (w.heap.size+1) O.heap.size f R m s wr) (fun s _ wr=>least fun m=>ObI xs g A n c bv (w.heap.size+1) O.heap.size f R m s wr);case atStart=>exact⟨f8,Nt,rZ _,g5.out⟩
  case
   round=>
    obtain⟨cW,ci,k6,h0⟩:=hrel;have hY:=HO h0;clear h0 f8 Nt g5;generalize gs:(least fun m=>ObI xs g A n c bv (w.heap.size+1) O.heap.size f R m u7 wr)=M at*;have e0:=rz gs;clear gs;have hZ:=dp.off ci V b8;rcases hY with⟨v,l,ks,ct,D,c1,cR,G,c2,rfl,eg,cj,d1,cz,d2,ZV,j4,j2⟩|⟨j3,k,e,a2,v,ct,D,c1,cR,G,c2,rfl,rfl,he,eg,cj⟩
    ·obtain⟨m,rfl⟩:∃m,M=m+1:=by cases M with|zero=>simp[Ae]at d2|succ m=>exact⟨m,rfl⟩
     have jj:=d1.len V;have ji:=cz.len V;have hR:=ci.size;rw[Kr]at d2;obtain⟨X,fi⟩:∃X,WE xs m bv (KM xs v ks)=some X:=by
      cases h:WE xs m bv (KM xs v ks)with
      |none=>rw[h]at d2;cases d2
      |some X=>exact⟨X,rfl⟩
     rw[fi]at d2;have em:=rz d2;clear d2;have hn:=RN g A n c B m bv xs v ks X (hH.out m V) ZV hX hP fi;have ga:=rz hn;have ha:∀w1 ar(_:ar=KL v ks),CD w1 g A n c v.next ar v->g<w1.heap.size->Rd w1 B A n xs->Calls Tryz.prog 53 #[sg g,.int .i64 5] w1 fun e' w'=>e'=.returned (.tuple #[])/\CD w' g A n c (Dz xs v.next ar v 5).1 (Dz xs v.next ar v 5).2.1 (Dz xs v.next ar v 5).2.2/\sa g w1.heap.size w1 w':=fun w1 ar _ h1 h2 bw=>Ni g A n c B v.next ar 5 xs v w1 h1 h2 bw b8 e8 e9 (fun _=>ZV)
     have g6:=rz ha;clear hn ha fi;obtain⟨cc,gr⟩:=sW (KL v ks);have dz:=rz gr;clear gr;have HP:=rz eg;obtain⟨⟨hp,hq,hr,hs,ht,hu,hv,hw⟩,hx⟩:=eg;go_upto_block 2 with fail;clear hp hq hr hs ht hu hv hw hx;go_cut []from 17 to 67 (fun b3=>CD b3 g A n c v.next cc v/\vW b3 w.heap.size 0 0 ⟨#[]⟩ none 0 0 none 0 0/\sa g w.heap.size w b3/\wr.heap.size<=b3.heap.size/\vW b3 (w.heap.size+1) 6 0 ⟨#[]⟩ ct D c1 cR G c2/\uK uq 60 5 nS (fun b=>cR.map (·.block)=some b) b3 O.heap.size ct D c1 l/\uK Nn 9 1 nS (fun b=>ct.map (·.block)=some b) b3 O.heap.size cR G c2 ks);case
      first
       =>
        by_cases b7:v.kind=10
        ·obtain⟨gk,hK,hL,hM⟩:=cz.row uz V;have hI:gk=uL ks:=by apply wH (by simp[uL,hL]);intro i hS j1;have:gk[i]=[sv ks[i]]:=hM i hS V;rw[this];simp[uL]
         subst hI;have gW:=xJ (c:=c2) v.text wr hK V;have go:cc=if ks.contains v.text=true then 23 else 0:=by rw[dz.out];unfold KL;rw[rB (by simp[b7])]
         generalize ks.contains v.text=hG at*;have el:=rz go;have az:=cj;obtain⟨⟨aa,ab,ad,af,an⟩,L⟩:=az;have ih:(v.kind==10)=true:=tl.2 b7;clear go b7;go_wp2_with fail;refine tZ gW ?_;clear gW aa ab ad af an L;cases hG;·have h:=el.out;rw[rB (by simp)]at h;clear el;go_wp2_with fail;go_meet;exact⟨by rw[h];exact HP.out,cW,ci,rZ _,cj,d1,cz⟩
         ·have h:=el.out;rw[rG rfl]at h;have f3:=rz h;clear el h;go_wp2_with fail;refine sG (vX g A n c v.next 0 23 v wr HP.out) fun b1 ⟨bw,r⟩=> ?_
          rw[rG rfl]at bw;have ds:=r.size;have b6:=cW.off r V V;have aU:=cj.off r V V;have H:=d1.off ve r V (by simp[nS]);have b2:=cz.off uz r V (by simp[nS]);have bj:=ci.trans (r.mono V);clear cW cj d1 cz ci;go_wp2_with fail;go_meet;exact⟨by rw[f3.out];exact bw,b6,bj,ds,aU,H,b2⟩
        ·have id:(v.kind==10)=false:=rA.2 b7;have h:cc=20:=by rw[dz.out];unfold KL;rw[rG b7]
         have f3:=rz h;clear h b7;go_wp2_with fail;refine sG (vX g A n c v.next 0 20 v wr HP.out) fun b1 ⟨bw,r⟩=> ?_
         rw[rG rfl]at bw;have ds:=r.size;have b6:=cW.off r V V;have aU:=cj.off r V V;have H:=d1.off ve r V (by simp[nS]);have b2:=cz.off uz r V (by simp[nS]);have bj:=ci.trans (r.mono V);clear cW cj d1 cz ci;go_wp2_with fail;go_meet;exact⟨by rw[f3.out];exact bw,b6,bj,ds,aU,H,b2⟩
     case
      rest=>
       obtain⟨hg,gi,fE,k7,gc,h6,hc⟩:=hcut;clear HP cW ci hZ cj d1 cz;have g2:=dp.off fE V b8;go_wp2_with fail;refine sG (g6.out wc cc dz.out hg V g2) fun b1 ⟨bw,r⟩=> ?_
       have ds:=r.size;have cp:=g2.off r V b8;have b6:=gi.off r V V;have aU:=gc.off r V V;have H:=h6.off ve r V eQ;have b2:=hc.off uz r V eQ;have bj:=fE.trans (r.mono V);clear gi gc h6 hc fE;have gA:=ga.out (Dz xs v.next cc v 5).1 (Dz xs v.next cc v 5).2.1 (Dz xs v.next cc v 5).2.2 (by rw[dz.out]);generalize(Dz xs v.next cc v 5).1=ck at*;generalize(Dz xs v.next cc v 5).2.1=ar at*;generalize(Dz xs v.next cc v 5).2.2=cr at*;have f5:=rz gA;clear gA ga g6 dz r g2 hg;have ft:=H.block;have hd:=b2.block;have az:=aU;obtain⟨⟨i3,i4,i5,i6,i7⟩,i8⟩:=az;have sK:=(afw b1).al rV (.cells #[.string ⟨v.text.toArray⟩] 9);have gR:(b1.alloc (.cells #[.string ⟨v.text.toArray⟩] 9)).cell? (rN b1.heap.size 0)=some (.string ⟨v.text.toArray⟩):=bi;have gl:=bw.below sK V;have i0:=sK.l1;have bn:=b6.below sK V;have b4:=aU.below sK V;have bd:=H.below ve sK;have be:=b2.below uz sK;have bp:=bj.trans (sa.of (sK.mono V));clear b6 aU H b2 bj;have hV:=bd.block;have ch:=be.block;clear bw sK;go_upto_region 14 with(at_builtin;go_must(refine tn (z:=.string ⟨#[]⟩) (bytes:=16) (H1:=b1.heap.size) (y:=v.text) (cs:=[sv v.text]) rfl ub yQ rfl V V uz rfl rfl be rfl V (fun b hb=>by have:=(ch b hb).2.1;have:=(hd b hb).2.1;omega) bW (fun b hb=>⟨(ft b hb).2.1,by have:=(ft b hb).2.1;omega,fun h=>h.elim⟩) (fun j u bk=>by rcases j with _|j<;>simp[sv]at bk;subst bk;exact gR) V V ?_);intro T a0 bs a6 df h3 gn;have b5:=b4.below df V;obtain⟨⟨aa,ab,ad,af,an⟩,L⟩:=b5);clear i3 i4 i5 i6 i7 i8;have ei:=df.size;have ef:sa (w.heap.size+1) bs.heap.size bs (bs.setCell ⟨w.heap.size+1,4,none⟩ (.slice T (G+1) a0)):=(sa.refl _ _ _).setAt 4 _;have bx:vW (bs.setCell ⟨w.heap.size+1,4,none⟩ (.slice T (G+1) a0)) (w.heap.size+1) 6 0 ⟨#[]⟩ ct D c1 T (G+1) a0:=⟨⟨bi,bi,bi,bi,bi⟩,fun j=>by have:=L j;go_simp⟩;have bO:=(bn.below df V).off ef V V;have c7:=(bd.DZ ve h3 gn).off ve ef V eQ;have c9:=a6.off uz ef V eQ;have fb:=(gl.below df V).off ef V V;have br:=(bp.trans (sa.of (df.mono V))).trans (show sa g w.heap.size bs (bs.setCell ⟨w.heap.size+1,4,none⟩ (.slice T (G+1) a0))from(sa.refl _ _ _).wS bl _);have f1:bs.heap.size<=(bs.setCell ⟨w.heap.size+1,4,none⟩ (.slice T (G+1) a0)).heap.size:=bA;clear aa ab ad af an L ef h3 gn df gl b4 bn bd be a6 bp gR hV ch hd ft;generalize(bs.setCell _ _)=F at*;have ix:O.heap.size<=F.heap.size:=V;have g0:=dp.off br V b8;clear i0 ei;clear cp;go_cut []from 17 to 67 (fun b3=>vW b3 w.heap.size 0 0 ⟨#[]⟩ none 0 0 none 0 0/\sa g w.heap.size w b3/\O.heap.size<=b3.heap.size/\Gn xs g A n c X b3/\∃x C,vW b3 (w.heap.size+1) 6 0 ⟨#[]⟩ x (D+1) C T (G+1) a0/\uK IsO 60 5 nS (fun b=>T.map (·.block)=some b) b3 O.heap.size x (D+1) C (l.map some++[rJ X])/\uK Nn 9 1 nS (fun b=>x.map (·.block)=some b) b3 O.heap.size T (G+1) a0 (ks++[v.text]));case
        first
         =>
          refine sR (K:=fun _ _ _=>True) OF (sA.of [0,2,3,5] (.fork 1 (sA.of [4,6,7,8,9,10] .nil) 4 ((.fork 1 (sA.of [6,7,8,9,10] .nil) 6 ((.fork 1 (sA.of [7,8,9,10] .nil) 7 (sA.of [1,8,9,10] .nil))))))) [1,4,6,7,8,10] bm bm bF bm (by intro _ _ d _ _ h;cases d<;>exact h) (fun g3 cE i1=> ?_);have f0:=fb.below cE V;have e2:=bx.below cE V;have er:=bO.below cE V;have e6:=c7.below ve cE;have e7:=c9.below uz cE;have dr:=g0.sV cE V;have ed:=br.trans (sa.of (cE.mono (by have:=br.size;omega)));have k5:O.heap.size<=g3.heap.size:=V;have hk:=fun w1 h1 h2 bw=>JC g A n c B ck ar xs cr w1 h1 h2 bw b8 e8 e9 f5.out.1
          have hm:=f5.out.2 (D1 xs ck ar cr).1 (D1 xs ck ar cr).2.1 (D1 xs ck ar cr).2.2.1 (D1 xs ck ar cr).2.2.2 rfl;generalize(D1 xs ck ar cr).1=kf at*;generalize(D1 xs ck ar cr).2.1=kc at*;generalize(D1 xs ck ar cr).2.2.1=te at*;generalize(D1 xs ck ar cr).2.2.2=kd at*;have g8:=rz hk;have f4:=rz hm;clear hk hm fb bx bO c7 c9 g0 br cE i1;have abQ:=e6.block;have adv:=e7.block;have iv:=ed.size;refine ah ?_;refine yr rfl rfl 0 rV (fun W o=> ?_) (fun W o=> ?_)
          ·have az:=e2;obtain⟨⟨aa,ab,ad,af,an⟩,L⟩:=az;go_wp2_with fail;refine o _ _ trivial ?_;clear o;clear aa ab ad af an L;refine ah ?_;refine se rfl rfl 0 rV (fun W o=> ?_);go_wp2_with fail;refine sG (g8.out g3 f0 V dr) fun b1 ⟨d3,r⟩=> ?_
           go_wp2_with fail;refine o _ _ trivial ?_;clear o;have ds:=r.size;have cp:=dr.off r V b8;have b6:=er.off r V V;have aU:=e2.off r V V;have H:=e6.off ve r V (by simp[nS]);have b2:=e7.off uz r V (by simp[nS]);have bj:=ed.trans (r.mono V);clear er e2 e6 e7 ed;clear f0 dr r;refine ah ?_;refine se rfl rfl 0 rV (fun W o=> ?_);go_wp2_with fail;refine(f4.out b1 d3 V cp).mono ?_;rintro e' E ⟨k,i,t,a1,a7,a4,a3,a9,a5,rfl,cf,Nu,I⟩;go_wp2_with fail;refine o _ _ trivial ?_;clear o;have hj:=I.size;have cy:=H.toO;clear H;have H:=cy;clear cy;have bn:=b6.off I V V;have b4:=aU.off I V V;have bd:=H.off xz I V (by simp[nS]);have be:=b2.off uz I V (by simp[nS]);have bp:=bj.trans (I.mono V);clear b6 aU H b2 bj;clear d3 cp I;refine ah ?_;refine se rfl rfl 0 rV (fun W o=> ?_);go_wp2_with fail;refine o _ _ trivial ?_;clear o;have sK:=(afw E).al rV (jC k i t a1 a7 a4 a3 a9 a5);have cS:=vW.new E k i t a1 a7 a4 a3 a9 a5 E.heap.size rfl;have c8:=xz.keep (Y:=fun b=>(nS b\/b1.heap.size<=b)/\b<(E.alloc (jC k i t a1 a7 a4 a3 a9 a5)).heap.size) cf (fun q d4=>sK.cell d4.2) (fun b hb=>⟨.inr hb.1,by simp;omega⟩);have Hz:Gn xs g A n c X (E.alloc (jC k i t a1 a7 a4 a3 a9 a5)):=mC;have ei:=sK.l1;have bz:=bn.below sK V;have b5:=b4.below sK V;have c6:=bd.below xz sK;have a6:=be.below uz sK;have cb:=bp.trans (sa.of (sK.mono V));clear bn b4 bd be bp;clear sK cf Nu;generalize(E.alloc _)=bs at*;generalize E.heap.size=q at*;refine ah ?_;refine se rfl rfl 0 rV (fun W o=> ?_);obtain⟨⟨j0,d7,d8,d9,dd⟩,_⟩:=cS;have ch:=a6.block;go_wp2_with(at_builtin;refine tn (z:=jA 0 0 ⟨#[]⟩ none 0 0 none 0 0) (bytes:=80) rfl tQ yP rfl V V xz rfl rfl c6 c8 V dB (by intro b hb;cases hb) (fun b hb=>⟨dU,dU,fun h=>h.elim⟩) (fun j u bk=>by rcases j with _|_|_|_|_|j<;>simp[jv]at bk<;>subst bk<;>assumption) V V ?_;intro x C F c7 x8 c5 c4);refine o _ _ trivial ?_;clear o;have f1:=x8.size;have bO:=bz.below x8 V;have bx:=b5.below x8 V;have c9:=a6.DZ uz c5 c4;have br:=cb.trans (sa.of (x8.mono V));have OA:Gn xs g A n c X F:=mB;clear j0 d7 d8 d9 dd bz b5 cb Hz c6 c8 a6 x8 ch c5 c4;refine ah ?_;refine se rfl rfl 0 rV (fun W o=> ?_);obtain⟨⟨aa,ab,ad,af,an⟩,L⟩:=bx;go_wp2_with fail;refine o _ _ trivial ?_;clear o;refine sF ?_;have zY:sa (w.heap.size+1) F.heap.size F (F.setCell ⟨w.heap.size+1,3,none⟩ (.slice x (D+1) C)):=(sa.refl _ _ _).setAt 3 _;have d6:O.heap.size<=(F.setCell ⟨w.heap.size+1,3,none⟩ (.slice x (D+1) C)).heap.size:=by simp;omega
           have d5:Gn xs g A n c X (F.setCell ⟨w.heap.size+1,3,none⟩ (.slice x (D+1) C)):=mx;go_wp2_with fail;go_meet;exact⟨bO.off zY V V,br.wS bl _,d6,d5,x,C,⟨⟨by go_simp,by go_simp,by go_simp,by go_simp,by go_simp⟩,fun j=>by have:=L j;go_simp⟩,c7.off xz zY V (by simp[nS]),c9.off uz zY V (by simp[nS])⟩
          ·go_wp2_with fail;refine sG (g8.out g3 f0 V dr) fun b1 ⟨d3,r⟩=> ?_
           go_wp2_with fail;refine o _ _ trivial ?_;clear o;have ds:=r.size;have cp:=dr.off r V b8;have b6:=er.off r V V;have aU:=e2.off r V V;have H:=e6.off ve r V (by simp[nS]);have b2:=e7.off uz r V (by simp[nS]);have bj:=ed.trans (r.mono V);clear er e2 e6 e7 ed;clear f0 dr r;refine ah ?_;refine yr rfl rfl 0 rV (fun W o=> ?_) (fun W o=> ?_)
           ·have az:=aU;obtain⟨⟨aa,ab,ad,af,an⟩,L⟩:=az;go_wp2_with fail;refine o _ _ trivial ?_;clear o;clear aa ab ad af an L;refine ah ?_;refine se rfl rfl 0 rV (fun W o=> ?_);go_wp2_with fail;refine(f4.out b1 d3 V cp).mono ?_;rintro e' E ⟨k,i,t,a1,a7,a4,a3,a9,a5,rfl,cf,Nu,I⟩;go_wp2_with fail;refine o _ _ trivial ?_;clear o;have hj:=I.size;have cy:=H.toO;clear H;have H:=cy;clear cy;have bn:=b6.off I V V;have b4:=aU.off I V V;have bd:=H.off xz I V (by simp[nS]);have be:=b2.off uz I V (by simp[nS]);have bp:=bj.trans (I.mono V);clear b6 aU H b2 bj;clear d3 cp I;refine ah ?_;refine se rfl rfl 0 rV (fun W o=> ?_);go_wp2_with fail;refine o _ _ trivial ?_;clear o;have sK:=(afw E).al rV (jC k i t a1 a7 a4 a3 a9 a5);have cS:=vW.new E k i t a1 a7 a4 a3 a9 a5 E.heap.size rfl;have c8:=xz.keep (Y:=fun b=>(nS b\/b1.heap.size<=b)/\b<(E.alloc (jC k i t a1 a7 a4 a3 a9 a5)).heap.size) cf (fun q d4=>sK.cell d4.2) (fun b hb=>⟨.inr hb.1,by simp;omega⟩);have Hz:Gn xs g A n c X (E.alloc (jC k i t a1 a7 a4 a3 a9 a5)):=mC;have ei:=sK.l1;have bz:=bn.below sK V;have b5:=b4.below sK V;have c6:=bd.below xz sK;have a6:=be.below uz sK;have cb:=bp.trans (sa.of (sK.mono V));clear bn b4 bd be bp;clear sK cf Nu;generalize(E.alloc _)=bs at*;generalize E.heap.size=q at*;refine ah ?_;refine se rfl rfl 0 rV (fun W o=> ?_);obtain⟨⟨j0,d7,d8,d9,dd⟩,_⟩:=cS;have ch:=a6.block;go_wp2_with(at_builtin;refine tn (z:=jA 0 0 ⟨#[]⟩ none 0 0 none 0 0) (bytes:=80) rfl tQ yP rfl V V xz rfl rfl c6 c8 V dB (by intro b hb;cases hb) (fun b hb=>⟨dU,dU,fun h=>h.elim⟩) (fun j u bk=>by rcases j with _|_|_|_|_|j<;>simp[jv]at bk<;>subst bk<;>assumption) V V ?_;intro x C F c7 x8 c5 c4);refine o _ _ trivial ?_;clear o;have f1:=x8.size;have bO:=bz.below x8 V;have bx:=b5.below x8 V;have c9:=a6.DZ uz c5 c4;have br:=cb.trans (sa.of (x8.mono V));have OA:Gn xs g A n c X F:=mB;clear j0 d7 d8 d9 dd bz b5 cb Hz c6 c8 a6 x8 ch c5 c4;refine ah ?_;refine se rfl rfl 0 rV (fun W o=> ?_);obtain⟨⟨aa,ab,ad,af,an⟩,L⟩:=bx;go_wp2_with fail;refine o _ _ trivial ?_;clear o;refine sF ?_;have zY:sa (w.heap.size+1) F.heap.size F (F.setCell ⟨w.heap.size+1,3,none⟩ (.slice x (D+1) C)):=(sa.refl _ _ _).setAt 3 _;have d6:O.heap.size<=(F.setCell ⟨w.heap.size+1,3,none⟩ (.slice x (D+1) C)).heap.size:=by simp;omega
            have d5:Gn xs g A n c X (F.setCell ⟨w.heap.size+1,3,none⟩ (.slice x (D+1) C)):=mx;go_wp2_with fail;go_meet;exact⟨bO.off zY V V,br.wS bl _,d6,d5,x,C,⟨⟨by go_simp,by go_simp,by go_simp,by go_simp,by go_simp⟩,fun j=>by have:=L j;go_simp⟩,c7.off xz zY V (by simp[nS]),c9.off uz zY V (by simp[nS])⟩
           ·go_wp2_with fail;refine(f4.out b1 d3 V cp).mono ?_;rintro e' E ⟨k,i,t,a1,a7,a4,a3,a9,a5,rfl,cf,Nu,I⟩;go_wp2_with fail;refine o _ _ trivial ?_;clear o;have hj:=I.size;have cy:=H.toO;clear H;have H:=cy;clear cy;have bn:=b6.off I V V;have b4:=aU.off I V V;have bd:=H.off xz I V (by simp[nS]);have be:=b2.off uz I V (by simp[nS]);have bp:=bj.trans (I.mono V);clear b6 aU H b2 bj;clear d3 cp I;refine ah ?_;refine yr rfl rfl 0 rV (fun W o=> ?_) (fun W o=> ?_)
            ·have az:=b4;obtain⟨⟨aa,ab,ad,af,an⟩,L⟩:=az;go_wp2_with fail;refine o _ _ trivial ?_;clear o;clear aa ab ad af an L;refine ah ?_;refine se rfl rfl 0 rV (fun W o=> ?_);go_wp2_with fail;refine o _ _ trivial ?_;clear o;have sK:=(afw E).al rV (jC k i t a1 a7 a4 a3 a9 a5);have cS:=vW.new E k i t a1 a7 a4 a3 a9 a5 E.heap.size rfl;have c8:=xz.keep (Y:=fun b=>(nS b\/b1.heap.size<=b)/\b<(E.alloc (jC k i t a1 a7 a4 a3 a9 a5)).heap.size) cf (fun q d4=>sK.cell d4.2) (fun b hb=>⟨.inr hb.1,by simp;omega⟩);have Hz:Gn xs g A n c X (E.alloc (jC k i t a1 a7 a4 a3 a9 a5)):=mC;have ei:=sK.l1;have bz:=bn.below sK V;have b5:=b4.below sK V;have c6:=bd.below xz sK;have a6:=be.below uz sK;have cb:=bp.trans (sa.of (sK.mono V));clear bn b4 bd be bp;clear sK cf Nu;generalize(E.alloc _)=bs at*;generalize E.heap.size=q at*;refine ah ?_;refine se rfl rfl 0 rV (fun W o=> ?_);obtain⟨⟨j0,d7,d8,d9,dd⟩,_⟩:=cS;have ch:=a6.block;go_wp2_with(at_builtin;refine tn (z:=jA 0 0 ⟨#[]⟩ none 0 0 none 0 0) (bytes:=80) rfl tQ yP rfl V V xz rfl rfl c6 c8 V dB (by intro b hb;cases hb) (fun b hb=>⟨dU,dU,fun h=>h.elim⟩) (fun j u bk=>by rcases j with _|_|_|_|_|j<;>simp[jv]at bk<;>subst bk<;>assumption) V V ?_;intro x C F c7 x8 c5 c4);refine o _ _ trivial ?_;clear o;have f1:=x8.size;have bO:=bz.below x8 V;have bx:=b5.below x8 V;have c9:=a6.DZ uz c5 c4;have br:=cb.trans (sa.of (x8.mono V));have OA:Gn xs g A n c X F:=mB;clear j0 d7 d8 d9 dd bz b5 cb Hz c6 c8 a6 x8 ch c5 c4;refine ah ?_;refine se rfl rfl 0 rV (fun W o=> ?_);obtain⟨⟨aa,ab,ad,af,an⟩,L⟩:=bx;go_wp2_with fail;refine o _ _ trivial ?_;clear o;refine sF ?_;have zY:sa (w.heap.size+1) F.heap.size F (F.setCell ⟨w.heap.size+1,3,none⟩ (.slice x (D+1) C)):=(sa.refl _ _ _).setAt 3 _;have d6:O.heap.size<=(F.setCell ⟨w.heap.size+1,3,none⟩ (.slice x (D+1) C)).heap.size:=by simp;omega
             have d5:Gn xs g A n c X (F.setCell ⟨w.heap.size+1,3,none⟩ (.slice x (D+1) C)):=mx;go_wp2_with fail;go_meet;exact⟨bO.off zY V V,br.wS bl _,d6,d5,x,C,⟨⟨by go_simp,by go_simp,by go_simp,by go_simp,by go_simp⟩,fun j=>by have:=L j;go_simp⟩,c7.off xz zY V (by simp[nS]),c9.off uz zY V (by simp[nS])⟩
            ·go_wp2_with fail;refine o _ _ trivial ?_;clear o;have sK:=(afw E).al rV (jC k i t a1 a7 a4 a3 a9 a5);have cS:=vW.new E k i t a1 a7 a4 a3 a9 a5 E.heap.size rfl;have c8:=xz.keep (Y:=fun b=>(nS b\/b1.heap.size<=b)/\b<(E.alloc (jC k i t a1 a7 a4 a3 a9 a5)).heap.size) cf (fun q d4=>sK.cell d4.2) (fun b hb=>⟨.inr hb.1,by simp;omega⟩);have Hz:Gn xs g A n c X (E.alloc (jC k i t a1 a7 a4 a3 a9 a5)):=mC;have ei:=sK.l1;have bz:=bn.below sK V;have b5:=b4.below sK V;have c6:=bd.below xz sK;have a6:=be.below uz sK;have cb:=bp.trans (sa.of (sK.mono V));clear bn b4 bd be bp;clear sK cf Nu;generalize(E.alloc _)=bs at*;generalize E.heap.size=q at*;refine ah ?_;refine se rfl rfl 0 rV (fun W o=> ?_);have az:=b5;obtain⟨⟨aa,ab,ad,af,an⟩,L⟩:=az;go_wp2_with fail;refine o _ _ trivial ?_;clear o;clear aa ab ad af an L;refine ah ?_;refine se rfl rfl 0 rV (fun W o=> ?_);obtain⟨⟨j0,d7,d8,d9,dd⟩,_⟩:=cS;have ch:=a6.block;go_wp2_with(at_builtin;refine tn (z:=jA 0 0 ⟨#[]⟩ none 0 0 none 0 0) (bytes:=80) rfl tQ yP rfl V V xz rfl rfl c6 c8 V dB (by intro b hb;cases hb) (fun b hb=>⟨dU,dU,fun h=>h.elim⟩) (fun j u bk=>by rcases j with _|_|_|_|_|j<;>simp[jv]at bk<;>subst bk<;>assumption) V V ?_;intro x C F c7 x8 c5 c4);refine o _ _ trivial ?_;clear o;have f1:=x8.size;have bO:=bz.below x8 V;have bx:=b5.below x8 V;have c9:=a6.DZ uz c5 c4;have br:=cb.trans (sa.of (x8.mono V));have OA:Gn xs g A n c X F:=mB;clear j0 d7 d8 d9 dd bz b5 cb Hz c6 c8 a6 x8 ch c5 c4;refine ah ?_;refine se rfl rfl 0 rV (fun W o=> ?_);obtain⟨⟨aa,ab,ad,af,an⟩,L⟩:=bx;go_wp2_with fail;refine o _ _ trivial ?_;clear o;refine sF ?_;have zY:sa (w.heap.size+1) F.heap.size F (F.setCell ⟨w.heap.size+1,3,none⟩ (.slice x (D+1) C)):=(sa.refl _ _ _).setAt 3 _;have d6:O.heap.size<=(F.setCell ⟨w.heap.size+1,3,none⟩ (.slice x (D+1) C)).heap.size:=by simp;omega
             have d5:Gn xs g A n c X (F.setCell ⟨w.heap.size+1,3,none⟩ (.slice x (D+1) C)):=mx;go_wp2_with fail;go_meet;exact⟨bO.off zY V V,br.wS bl _,d6,d5,x,C,⟨⟨by go_simp,by go_simp,by go_simp,by go_simp,by go_simp⟩,fun j=>by have:=L j;go_simp⟩,c7.off xz zY V (by simp[nS]),c9.off uz zY V (by simp[nS])⟩
       case
        rest=>
         obtain⟨f9,ec,k4,⟨a8,v8,h8,fc,ff⟩,x,C,f7,dj,h7⟩:=hcut;have it:=ec.size;clear fb bx bO c7 c9 g0 br f5;have g1:=dp.off ec V b8;cases X with
         |error e=>
          have b0:some (Except.error e)=some R:=em.out;injection b0 with b0;subst b0;have he:=ff e rfl;simp only[rE]at h8;clear em fc ff;go_wp2_with fail;refine tZ (H8 g A n c a8 e v8 wc h8 he) ?_;go_wp2_with fail;refine sG (vX g A n c a8 e 20 v8 wc h8) fun hF ⟨c3,b9⟩=> ?_
          rw[rB he]at c3;have hi:=b9.size;have e3:=f9.off b9 V V;have cv:=f7.off b9 V V;have ea:=ec.trans (b9.mono V);go_wp2_with fail;go_roundw;case rel=>exact⟨e3,ea,V,0,(.inr ⟨rfl,v.kind,e,a8,v8,x,(D+1),C,T,(G+1),a0,rfl,rfl,cD,c3,cv⟩)⟩
          case measure=>rw[e0.out];exact th (least_le (m:=0) (.inr ⟨rfl,v.kind,e,a8,v8,x,(D+1),C,T,(G+1),a0,rfl,rfl,cD,c3,cv⟩)) V
         |ok p=>
          obtain⟨j,a'⟩:=p;obtain⟨rfl,hO⟩:=fc j a' rfl;simp only[rE,rJ]at h8 dj;clear ff fc;have U:=em.out;simp only at U;clear em;have fn:=fun v h=>y9 (xs:=xs) (a:=a8) (wd:=v) hO h
          have fl:=fun e h=>wB (xs:=xs) (a:=a8) (e:=e) h
          have h5:uK uq 60 5 nS (fun b=>T.map (·.block)=some b) wc O.heap.size x (D+1) C (l++[j]):=uK.ofO (by rw[yD];exact dj);clear dj;have dj:=h5;clear h5;go_wp2_with fail;refine sG (yz g A n c B a8 xs v8 wc h8 V g1 b8 e8 e9 V) fun dx ⟨h9,cx⟩=> ?_
          have k3:=cx.size;have e4:=f9.off cx V V;have e1:=f7.off cx V V;have fm:=dj.off ve cx V eQ;have fx:=h7.off uz cx V eQ;have eb:=ec.trans (cx.mono V);clear f9 f7 dj h7 ec;have hh:=g1.off cx V b8;clear h8 g1 cx;cases hT:sH xs a8 with
          |error cZ=>
           rw[hT]at U h9;simp only[sq]at U;subst U;have he:=fl cZ hT;simp only[Cw,JL,Gm,Li]at h9|-;clear fn fl hT;go_wp2_with fail;refine sG (vX g A n c a8 cZ 20 v8 dx h9) fun hF ⟨c3,b9⟩=> ?_
           rw[rB he]at c3;have hi:=b9.size;have e3:=e4.off b9 V V;have cv:=e1.off b9 V V;have ea:=eb.trans (b9.mono V);go_wp2_with fail;go_roundw;case rel=>exact⟨e3,ea,V,0,(.inr ⟨rfl,v.kind,cZ,a8,v8,x,(D+1),C,T,(G+1),a0,rfl,rfl,cD,c3,cv⟩)⟩
           case measure=>rw[e0.out];exact th (least_le (m:=0) (.inr ⟨rfl,v.kind,cZ,a8,v8,x,(D+1),C,T,(G+1),a0,rfl,rfl,cD,c3,cv⟩)) V
          |ok Z=>
           rw[hT]at U h9;have k9:=fn Z hT;simp only at U;simp only[Cw,JL,Gm,Li]at h9|-;clear fn fl hT;by_cases ek:Z.kind=2
           ·rw[rG ek,sq]at U;subst U;rw[ek];have az:=e1;have eh:=e4;obtain⟨⟨aa,ab,ad,af,an⟩,L⟩:=az;obtain⟨⟨hy,hz,hA,hB,hC⟩,hD⟩:=eh;go_wp2_with fail;have Ck:sa w.heap.size dx.heap.size dx (((((dx.setCell ⟨w.heap.size,0,none⟩ (.int .i64 6)).setCell ⟨w.heap.size,1,none⟩ (.int .i64 0)).setCell ⟨w.heap.size,2,none⟩ (.string ⟨#[]⟩)).setCell ⟨w.heap.size,3,none⟩ (.slice x (D+1) C)).setCell ⟨w.heap.size,4,none⟩ (.slice T (G+1) a0)):=((((((sa.refl _ _ _).setAt 0 _).setAt 1 _).setAt 2 _).setAt 3 _).setAt 4 _);refine sc (uX (k:=6) (i:=0) (t:=⟨#[]⟩) (A:=x) (n:=D+1) (c:=C) (A':=T) (n':=G+1) (c':=a0) rfl rfl ⟨bi,bi,bi,bi,bi⟩) rfl ?_;refine⟨6,0,⟨#[]⟩,x,D+1,C,T,G+1,a0,rfl,KK (fm.off ve Ck V eQ) (fx.off uz Ck V eQ) V V V,?_,?_⟩;·exact⟨Z.next,Z,h9.off Ck V V,(fun j a' h=>mK),fR⟩
            ·repeat' (first|with_reducible exact eb|with_reducible refine sa.wS ?_ bl _)
           ·rw[rB ek]at U;have i2:(Z.kind==2)=false:=rA.2 ek;by_cases f2:Z.kind=6
            ·rw[rG f2]at U;have g9:=rz U;clear U ek i2;rw[f2];go_wp2_with fail;refine sG (yz g A n c B Z.next xs Z dx h9 V hh b8 e8 e9 V) fun i9 ⟨b7,d0⟩=> ?_
             have k1:=d0.size;have gf:=e4.off d0 V V;have f6:=e1.off d0 V V;have hU:=fm.off ve d0 V eQ;have hW:=fx.off uz d0 V eQ;have hf:=eb.trans (d0.mono V);clear e4 e1 fm fx eb;clear h9 hh d0;go_wp2_with fail;have U:=g9.out;clear g9;cases hT:sH xs Z.next with
             |error cZ=>
              rw[hT]at U b7;simp only[sq]at U;subst U;have he:=wB hT;simp only[Cw,JL,Gm,Li]at b7|-;go_roundw;case rel=>exact⟨gf,hf,V,0,(.inr ⟨rfl,0,cZ,Z.next,Z,x,(D+1),C,T,(G+1),a0,rfl,rfl,cD,b7,f6⟩)⟩
              case measure=>rw[e0.out];exact th (least_le (m:=0) (.inr ⟨rfl,0,cZ,Z.next,Z,x,(D+1),C,T,(G+1),a0,rfl,rfl,cD,b7,f6⟩)) V
             |ok hE=>
              rw[hT]at U b7;simp only at U;have k8:=y9 V hT;simp only[Cw,JL,Gm,Li]at b7|-;have e5:ObI xs g A n c bv (w.heap.size+1) O.heap.size f R m (.int .i64 hE.kind) i9:=.inl ⟨hE,l++[j],ks++[v.text],x,D+1,C,T,G+1,a0,rfl,b7,f6,hU,hW,U,V,by simp;omega,by simp;omega⟩;go_roundw;case rel=>exact⟨gf,hf,V,m,e5⟩
              case measure=>rw[e0.out];exact th (least_le (m:=m) e5) V
            ·rw[rB f2,sq]at U;subst U;have ka:(Z.kind==6)=false:=rA.2 f2;go_wp2_with fail;refine sG (vX g A n c Z.next 0 20 Z dx h9) fun hF ⟨c3,b9⟩=> ?_
             rw[rG rfl]at c3;have hi:=b9.size;have e3:=e4.off b9 V V;have cv:=e1.off b9 V V;have ea:=eb.trans (b9.mono V);go_wp2_with fail;go_roundw;case rel=>exact⟨e3,ea,V,0,(.inr ⟨rfl,v.kind,20,Z.next,Z,x,(D+1),C,T,(G+1),a0,rfl,rfl,cD,c3,cv⟩)⟩
             case measure=>rw[e0.out];exact th (least_le (m:=0) (.inr ⟨rfl,v.kind,20,Z.next,Z,x,(D+1),C,T,(G+1),a0,rfl,rfl,cD,c3,cv⟩)) V
    ·have hR:=ci.size;have ip:(e==0)=false:=rA.2 he;have HP:=rz eg;obtain⟨⟨hp,hq,hr,hs,ht,hu,hv,hw⟩,hx⟩:=eg;have az:=cj;have eh:=cW;obtain⟨⟨aa,ab,ad,af,an⟩,L⟩:=az;obtain⟨⟨hy,hz,hA,hB,hC⟩,hD⟩:=eh;go_wp2_with fail;have Ck:sa w.heap.size wr.heap.size wr (((((wr.setCell ⟨w.heap.size,0,none⟩ (.int .i64 6)).setCell ⟨w.heap.size,1,none⟩ (.int .i64 0)).setCell ⟨w.heap.size,2,none⟩ (.string ⟨#[]⟩)).setCell ⟨w.heap.size,3,none⟩ (.slice ct D c1)).setCell ⟨w.heap.size,4,none⟩ (.slice cR G c2)):=((((((sa.refl _ _ _).setAt 0 _).setAt 1 _).setAt 2 _).setAt 3 _).setAt 4 _);refine sc (uX (k:=6) (i:=0) (t:=⟨#[]⟩) (A:=ct) (n:=D) (c:=c1) (A':=cR) (n':=G) (c':=c2) rfl rfl ⟨bi,bi,bi,bi,bi⟩) rfl ?_;refine⟨6,0,⟨#[]⟩,ct,D,c1,cR,G,c2,rfl,⟨_,_,_,_,_,_,_,_,_,rfl⟩,?_,?_⟩;·exact oA
     ·repeat' (first|with_reducible exact ci|with_reducible refine sa.wS ?_ bl _)
end Go.Proofs.YtccjlcadbpinfaaGreatDoor.Tp
namespace Go.Proofs.YtccjlcadbpinfaaGreatDoor.Can
open Go.RowKit
section
variable{P:Program}{ops:Array Oper}{Q:Exit->Act->World->Prop}{S S':World->Prop}{b:Nat}
def za(P:Program)(ops:Array Oper)(Q:Exit->Act->World->Prop)(b:Nat)(S:World->Prop):Nat->Array Bool->Act->World->Prop
 |0,d,a,w=>Region.ready .any ops d=[]/\Q .normal a w
 |fuel+1,d,a,w=>(Region.ready .any ops d=[]->Q .normal a w)/\∀i∈Region.ready .any ops d,wpOp P ops Q i (fun e w'=>((d.setIfInBounds i true).getD b true=true\/S w')/\za P ops Q b S fuel (d.setIfInBounds i true) e w') a w
def Iu:∀(d:Nat)(e:Array Bool)(a:Act)(w:World),za P ops Q b S d e a w->wpAny P .any ops Q d e a w
 |0,_,_,_,h=>h
 |d+1,_,_,_,h=>⟨h.1,fun i k=>uU (fun g w' j=>Iu d _ g w' j.2) (h.2 i k)⟩
def E0(h:∀w,S' w->S w):∀(d:Nat)(g:Array Bool)(a:Act)(w:World),za P ops Q b S' d g a w->za P ops Q b S d g a w
 |0,_,_,_,hh=>hh
 |d+1,_,_,_,hh=>⟨hh.1,fun i k=>uU (fun j w' e=>⟨e.1.imp id (h _),E0 h d _ j w' e.2⟩) (hh.2 i k)⟩
def zu{a:Array Bool}{i b:Nat}(h:a.getD b true=true):(a.setIfInBounds i true).getD b true=true:=by
 by_cases d:i=b;·subst d;by_cases e:i<a.size<;>simp[e]
 ·rw[getD_set_ne true d];exact h
def I9:∀(d:Nat)(e:Array Bool)(a:Act)(w:World),e.getD b true=true->wpAnyH P .any ops Q S' d e a w->za P ops Q b S d e a w
 |0,_,_,_,_,h=>h
 |d+1,_,_,_,hb,h=>⟨h.1,fun i k=>uU (fun g w' j=>⟨.inl (zu hb),I9 d _ g w' (zu hb) j.2⟩) (h.2 i k)⟩
def PN{i:Nat}{d:Oper}{v:Value}{S1:World->Prop}{Inv:Array Bool->Prop}(hi:ops[i]? =some d)(q:∀(j:Nat)(r:Oper) cs b,ops[j]? =some r->r.op≠ .select cs b)(z:∀c a w,Q (.panic c) (a.put d.dst v) w->Q (.panic c) a w)(Xp:i≠b)(y:∀(listed:Array Bool) j,Inv listed->j∈Region.ready .any ops listed->j≠i->Inv (listed.setIfInBounds j true))(hS1:∀(listed:Array Bool) w,Inv listed->(listed.getD b true=true\/S w)->S1 w):∀(l:Nat)(listed:Array Bool)(a:Act)(w:World),(∀j g,ops[j]? =some g->j≠i->listed.getD j true=false->(∀e∈g.after,Region.binds .any e=true->e.on≠i)->d.apart ops g=true)->i∈Region.ready .any ops listed->YieldsIf P ops S1 d v a->Inv listed->(listed.getD b true=true\/S w)->za P ops Q b S l (listed.setIfInBounds i true) (a.put d.dst v) w->za P ops Q b S (l+1) listed a w:=by
 intro l;induction l with
 |zero=>
  intro listed a w _ hr hy hv hS H;refine⟨fun h=>kh,fun j m=> ?_⟩;by_cases EK:j=i;·exact ph
  ·have:=Ib m EK;rw[H.1]at this;cases this
 |succ l C=>
  intro listed a w P4 hr hy hv hS H;refine⟨fun h=>kh,fun j m=> ?_⟩;by_cases EK:j=i;·exact ph
  ·have h1:=H.2 j (Ib m EK);obtain⟨Xs,g,o,Xi⟩:=mem_ready.1 m;have B:∀e∈g.after,Region.binds .any e=true->e.on≠i:=fun e he hb heq=>ep
   have x:=wpOp_putIf o (P4 j g o EK Xs B) (fun cs b=>q i d cs b hi) (fun cs b=>q j g cs b o) z hy h1;have A:∀k ok,ops[k]? =some ok->k≠i->(listed.setIfInBounds j true).getD k true=false->(∀e∈ok.after,Region.binds .any e=true->e.on≠i)->d.apart ops ok=true:=fun k ok hk hki hun hno=>fG
   have p:∀w',(((listed.setIfInBounds i true).setIfInBounds j true).getD b true=true\/S w')->((listed.setIfInBounds j true).getD b true=true\/S w'):=fun w' h=>iM
   refine uU (fun t w' n=>⟨p _ n.2.1,C (listed.setIfInBounds j true) t w' A (Ib hr (Ak EK)) n.1 (y _ _ hv m EK) (p _ n.2.1) ?_⟩) x;rw[Array.setIfInBounds_comm _ _ EK];exact n.2.2
def Cb(ops:Array Oper):Nat->List Nat->Bool
 |_,[]=>true
 |i,q::r=>(match ops[q]? with|some a=>a.after.any (fun e=>Region.binds .any e&&e.on==i)|none=>false)&&Cb ops q r
def Hi:∀(l:List Nat)(i:Nat),Cb ops i l=true->∀q∈l,∃p∈i::l,∃g,ops[q]? =some g/\∃e∈g.after,Region.binds .any e=true/\e.on=p
 | [],_,_,_,a=>by cases a
 |c::r,i,h,q,a=>
 by
  simp only[Cb,rO]at h;rcases sD.1 a with rfl|a
  ·refine⟨i,bA,?_⟩;have d:=h.1;cases j:ops[q]? with
   |none=>rw[j]at d;cases d
   |some g=>rw[j]at d;obtain⟨e,n,hb⟩:=Array.any_eq_true'.1 d;simp only[rO,tl]at hb;exact⟨g,rfl,e,n,hb.1,hb.2⟩
  ·obtain⟨p,k,m⟩:=Hi r c h.2 q a;exact⟨p,by simp only[sD]at k|-;exact .inr k,m⟩
def On{e:Array Bool}{p:Nat}(a:e.getD p false=true)(g:e.getD p true=false):False:=by
 rcases tE p e.size with d|d;·simp[d]at g a;rw[g]at a;cases a
 ·simp[Array.getElem?_eq_none d]at a
def Zq{i:Nat}{g:Oper}{v:Value}{k:Nat}{d:Array Bool}{a:Act}{w:World}(m:ops[i]? =some g)(x:Region.noSelect ops=true)(t:Region.free .any ops d i=true)(hr:(Region.ready .any ops d).contains i=true)(Xp:(i !=b)=true)(l:List Nat)(PZ:Cb ops i l=true)(y:(i::l).all (fun q=> !d.getD q true)=true)(hl:l.contains b=true)(n:∀c a w,Q (.panic c) (a.put g.dst v) w->Q (.panic c) a w)(z:YieldsIf P ops S g v a)(r:S w)(h:za P ops Q b S k (d.setIfInBounds i true) (a.put g.dst v) w):za P ops Q b S (k+1) d a w:=by
 refine PN (S1:=S) (Inv:=fun lst=>∀q∈i::l,lst.getD q true=false) m (zh x) n jQ ?_ ?_ k d a w (B2 m t) jx z ?_ (.inr r) h;·exact cC
 ·intro lst w' hv hc;exact gj
 ·intro q hq;have:=wG.1 y q hq;exact eV
def LW{i:Nat}{e:Oper}{v:Value}{g:Nat}{d:Array Bool}{a:Act}{w:World}(j:ops[i]? =some e)(n:Region.noSelect ops=true)(m:Region.free .any ops d i=true)(hr:(Region.ready .any ops d).contains i=true)(Xp:(i !=b)=true)(k:∀c a w,Q (.panic c) (a.put e.dst v) w->Q (.panic c) a w)(o:YieldsIf P ops (fun _=>True) e v a)(l:S w)(h:za P ops Q b S g (d.setIfInBounds i true) (a.put e.dst v) w):za P ops Q b S (g+1) d a w:=PN (S1:=fun _=>True) (Inv:=fun _=>True) j (zh n) k jQ (fun _ _ _ _ _=>trivial) (fun _ _ _ _=>trivial) g d a w (B2 j m) jx o trivial (.inr l) h
def TN{e:List Nat}{g:Nat}{d:Array Bool}{a:Act}{w:World}(j:Region.ready .any ops d=e)(m:e≠ [])(h:∀i∈e,wpOp P ops Q i (fun k w'=>((d.setIfInBounds i true).getD b true=true\/S w')/\za P ops Q b S g (d.setIfInBounds i true) k w') a w):za P ops Q b S (g+1) d a w:=⟨fun l=>absurd (j▸l) m,j▸h⟩
end
def Ul(ops:Array Oper)(b:Nat):Nat->Nat->Option (List Nat)
 |0,_=>none
 |f+1,i=>(List.range ops.size).findSome? fun q=>if(match ops[q]? with|some a=>a.after.any (fun e=>Region.binds .any e&&e.on==i)|none=>false)=true then(if q=b then some [b]else(Ul ops b f q).map (q::·))else none
def YO(ops:Array Oper)(mk rd:List Nat)(b:Nat)(σ2:sA):sA->Array Bool->Bool
 | .nil,a=>Region.ready .any ops a== [b]&&(b<a.size)&&AG ops mk σ2 (a.setIfInBounds b true)
 | .cons i p,a=>(if mk.contains i then Region.ready .any ops a== [i]else(i !=b)&&Region.free .any ops a i&&(Region.ready .any ops a).contains i&&(!rd.contains i||match Ul ops b ops.size i with|some l=>Cb ops i l&&(i::l).all (fun q=> !a.getD q true)&&l.contains b|none=>false))&&YO ops mk rd b σ2 p (a.setIfInBounds i true)
 | .fork i p j q,a=>Region.ready .any ops a== [i,j]&&YO ops mk rd b σ2 p (a.setIfInBounds i true)&&YO ops mk rd b σ2 q (a.setIfInBounds j true)
section
variable{P:Program}{ops:Array Oper}{Q:Exit->Act->World->Prop}{mk rd:List Nat}{b:Nat}{σ2:sA}{K:Nat->World->World->Prop}
def z7(P:Program)(ops:Array Oper)(Q:Exit->Act->World->Prop)(mk rd:List Nat)(b:Nat)(σ2:sA)(K:Nat->World->World->Prop):sA->Nat->Act->World->Prop
 | .nil,_,a,w=>wpOp P ops Q b (fun e w'=>wY P ops Q mk (fun _ _ _=>True) σ2 0 e w') a w
 | .cons i p,h,a,w=>∃g,ops[i]? =some g/\∃d,h<=d/\if mk.contains i then wpOp P ops Q i (fun e w'=>K d w w'/\z7 P ops Q mk rd b σ2 K p d e w') a w else if rd.contains i then∃v,YieldsIf P ops (K d w) g v a/\z7 P ops Q mk rd b σ2 K p d (a.put g.dst v) w else∃v,YieldsIf P ops (fun _=>True) g v a/\z7 P ops Q mk rd b σ2 K p d (a.put g.dst v) w
 | .fork i p j q,h,a,w=>∃d,h<=d/\wpOp P ops Q i (fun e w'=>K d w w'/\z7 P ops Q mk rd b σ2 K p d e w') a w/\wpOp P ops Q j (fun e w'=>K d w w'/\z7 P ops Q mk rd b σ2 K q d e w') a w
def Di(m:Aq K)(y:Region.noSelect ops=true)(o:∀c(a:Act) d v w,Q (.panic c) (a.put d v) w->Q (.panic c) a w):∀(E:sA)(e F:Nat)(z:Array Bool)(a:Act)(w:World),E.deep+1+σ2.deep<=e->YO ops mk rd b σ2 E z=true->z7 P ops Q mk rd b σ2 K E F a w->za P ops Q b (K F w) e z a w
 | .nil,e,F,z,a,w,hf,r,h=>
 by
  obtain⟨e,rfl⟩:∃k,e=k+1:=⟨e-1,V⟩;simp only[sA.deep]at hf;simp only[YO,rO,tl,sd]at r;obtain⟨⟨G,a3⟩,C⟩:=r;have O:(z.setIfInBounds b true).getD b true=true:=by simp[a3]
  refine TN G bA fun j hj=> ?_
  obtain rfl:j=b:=fK;refine uU (fun A w' g=>⟨.inl O,?_⟩) h;exact I9 _ _ _ _ O (yu (K:=fun _ _ _=>True) ⟨fun _ _=>trivial,fun _ _=>trivial,fun _ _=>trivial⟩ y o σ2 e 0 _ A w' V C g)
 | .cons i E,e,F,z,a,w,hf,r,h=>
 by
  obtain⟨e,rfl⟩:∃k,e=k+1:=⟨e-1,eU⟩;simp only[sA.deep]at hf;obtain⟨a5,U,n,I,D⟩:=h;simp only[YO,rO]at r;obtain⟨B,C⟩:=r;refine E0 (S':=K n w) (fun w' hb=>m.mono hb I) _ _ _ _ ?_;by_cases X:mk.contains i=true
  ·rw[rG X]at B D;have G:Region.ready .any ops z=[i]:=by simpa using B
   refine TN G bA fun j hj=> ?_
   obtain rfl:j=i:=fK;refine uU (fun A w' g=>⟨.inr g.1,?_⟩) D;exact E0 (fun x H=>m.trans g.1 H) _ _ _ _ (Di m y o E e n _ A w' V C g.2)
  ·rw[rB X]at B D;simp only[rO]at B;obtain⟨⟨⟨W,T⟩,Y⟩,t⟩:=B;by_cases L:rd.contains i=true
   ·rw[rG L]at D;obtain⟨v,N,M⟩:=D;rw[L]at t;simp only[tM,uA]at t;split at t;·rename_i l a4;simp only[rO]at t;exact Zq U y T Y W l t.1.1 t.1.2 t.2 (fun c a w=>o c a _ v w) N (m.refl _ _) (Di m y o E e n _ _ w V C M)
    ·cases t
   ·rw[rB L]at D;obtain⟨v,N,M⟩:=D;exact LW U y T Y W (fun c a w=>o c a _ v w) N (m.refl _ _) (Di m y o E e n _ _ w V C M)
 | .fork i p j q,e,F,z,a,w,hf,r,h=>
 by
  obtain⟨e,rfl⟩:∃k,e=k+1:=⟨e-1,eU⟩;simp only[sA.deep]at hf;obtain⟨n,I,Z,a0⟩:=h;simp only[YO,rO]at r;obtain⟨⟨a1,B⟩,C⟩:=r;refine E0 (S':=K n w) (fun w' hb=>m.mono hb I) _ _ _ _ ?_;have G:Region.ready .any ops z=[i,j]:=by simpa using a1
  refine TN G bA fun k hk=> ?_
  have a2:k=i\/k=j:=ki;rcases a2 with rfl|rfl;·refine uU (fun A w' g=>⟨.inr g.1,?_⟩) Z;exact E0 (fun x H=>m.trans g.1 H) _ _ _ _ (Di m y o p e n _ A w' V B g.2)
  ·refine uU (fun A w' g=>⟨.inr g.1,?_⟩) a0;exact E0 (fun x H=>m.trans g.1 H) _ _ _ _ (Di m y o q e n _ A w' V C g.2)
def vO(g:Aq K){n:Nat}{a:Act}{w:World}(e:sA)(b:Nat)(σ2:sA)(mk rd:List Nat)(l:P.follows .mixedOrders=true)(m:Region.noSelect ops=true)(k:e.deep+1+σ2.deep<=ops.size)(j:YO ops mk rd b σ2 e (Array.replicate ops.size false)=true)(i:∀c(a:Act) d v w,Q (.panic c) (a.put d v) w->Q (.panic c) a w)(h:∀wd:World,afv w wd->wd.heap.size=w.heap.size->z7 P ops Q mk rd b σ2 K e 0 a wd):(Code.region n ops true).wp P Q a w:=wp_region_any l (Iu (b:=b) (S:=K 0 w.drew) _ _ _ _ (Di g m i e _ 0 _ a _ k j (h w.drew xn.drew rfl)))
def wM{i:Nat}{m:sA}{e:Nat}{a:Act}{w:World}{d:Option Tmp}{k:Op}{ty:TypeId}{l:String}{g:Array Edge}{j:Option (Nat×Bool)}(p:mk.contains i=false)(n:rd.contains i=false)(o:ops[i]? =some ⟨d,k,ty,l,g,j⟩)(hw:Region.wanted ⟨d,k,ty,l,g,j⟩ (yielded ops a.tmps)=true){v:Value}(hy:∀w',(execOp a.eval ⟨d,k,ty,l,g,j⟩).run P w'=.ok (.value v) w')(h:z7 P ops Q mk rd b σ2 K m e (a.put d v) w):z7 P ops Q mk rd b σ2 K (.cons i m) e a w:=⟨_,o,e,rZ _,by rw[p,rB bA,n,rB bA];exact jo⟩
def wN{i:Nat}{n:sA}{m:Nat}{a:Act}{w:World}{e:Option Tmp}{k:Op}{ty:TypeId}{l:String}{g:Array Edge}{j:Option (Nat×Bool)}(hm:mk.contains i=false)(hd:rd.contains i=true)(p:ops[i]? =some ⟨e,k,ty,l,g,j⟩)(hw:Region.wanted ⟨e,k,ty,l,g,j⟩ (yielded ops a.tmps)=true)(d:Nat)(o:m<=d)(v:Value)(hy:∀w',K d w w'->(execOp a.eval ⟨e,k,ty,l,g,j⟩).run P w'=.ok (.value v) w')(h:z7 P ops Q mk rd b σ2 K n d (a.put e v) w):z7 P ops Q mk rd b σ2 K (.cons i n) m a w:=⟨_,p,d,o,o7⟩
def wO{i:Nat}{m:sA}{d:Nat}{a:Act}{w:World}{e:Option Tmp}{k:Op}{ty:TypeId}{l:String}{g:Array Edge}{j:Option (Nat×Bool)}(p:mk.contains i=false)(n:rd.contains i=false)(o:ops[i]? =some ⟨e,k,ty,l,g,j⟩)(hw:Region.wanted ⟨e,k,ty,l,g,j⟩ (yielded ops a.tmps)=false)(h:z7 P ops Q mk rd b σ2 K m d (a.put e undef) w):z7 P ops Q mk rd b σ2 K (.cons i m) d a w:=⟨_,o,d,rZ _,by rw[p,rB bA,n,rB bA];exact kJ⟩
def uC{i:Nat}{n:sA}{e:Nat}{a:Act}{w:World}{j:Option Tmp}{l:Op}{ty:TypeId}{m:String}{g:Array Edge}{k:Option (Nat×Bool)}(hm:mk.contains i=true)(hi:ops[i]? =some ⟨j,l,ty,m,g,k⟩)(d:Nat)(o:e<=d)(h:∀Q':Exit->Act->World->Prop,(∀a' w',K d w w'->z7 P ops Q mk rd b σ2 K n d a' w'->Q' .normal a' w')->wpList P ops Q' [⟨j,l,ty,m,g,k⟩] a w):z7 P ops Q mk rd b σ2 K (.cons i n) e a w:=⟨_,hi,d,o,gK⟩
def Az{m:Nat}{a:Act}{w:World}{i:Option Tmp}{k:Op}{ty:TypeId}{l:String}{g:Array Edge}{j:Option (Nat×Bool)}(o:ops[b]? =some ⟨i,k,ty,l,g,j⟩)(h:∀d:Exit->Act->World->Prop,(∀e w',(fun(_:Nat)(_ _:World)=>True) 0 w w'->wY P ops Q mk (fun _ _ _=>True) σ2 0 e w'->d .normal e w')->wpList P ops d [⟨i,k,ty,l,g,j⟩] a w):z7 P ops Q mk rd b σ2 K .nil m a w:=yC o (fun d n=>h d (fun e w' _ p=>n e w' p))
end
section
variable{P:Program}{ops:Array Oper}{Q:Exit->Act->World->Prop}{S S' R R':World->Prop}{b:Nat}
def wv(P:Program)(ops:Array Oper)(Q:Exit->Act->World->Prop)(b:Nat)(S R:World->Prop):Nat->Array Bool->Act->World->Prop
 |0,d,a,w=>Region.ready .any ops d=[]/\Q .normal a w
 |fuel+1,d,a,w=>(Region.ready .any ops d=[]->Q .normal a w)/\∀i∈Region.ready .any ops d,wpOp P ops Q i (fun e w'=>(((d.setIfInBounds i true).getD b true=true\/S w')/\R w')/\wv P ops Q b S R fuel (d.setIfInBounds i true) e w') a w
def F1:∀(d:Nat)(e:Array Bool)(a:Act)(w:World),wv P ops Q b S R d e a w->wpAny P .any ops Q d e a w
 |0,_,_,_,h=>h
 |d+1,_,_,_,h=>⟨h.1,fun i k=>uU (fun g w' j=>F1 d _ g w' j.2) (h.2 i k)⟩
def Ca(h:∀w,S' w->S w)(g:∀w,R' w->R w):∀(d:Nat)(j:Array Bool)(a:Act)(w:World),wv P ops Q b S' R' d j a w->wv P ops Q b S R d j a w
 |0,_,_,_,hh=>hh
 |d+1,_,_,_,hh=>⟨hh.1,fun i l=>uU (fun k w' e=>⟨⟨e.1.1.imp id (h _),g _ e.1.2⟩,Ca h g d _ k w' e.2⟩) (hh.2 i l)⟩
def G8:∀(d:Nat)(e:Array Bool)(a:Act)(w:World),e.getD b true=true->wpAnyH P .any ops Q R d e a w->wv P ops Q b S R d e a w
 |0,_,_,_,_,h=>h
 |d+1,_,_,_,hb,h=>⟨h.1,fun i k=>uU (fun j w' g=>⟨⟨.inl (zu hb),g.1⟩,G8 d _ j w' (zu hb) g.2⟩) (h.2 i k)⟩
def G7{i:Nat}{d:Oper}{v:Value}{S1:World->Prop}{Inv:Array Bool->Prop}(hi:ops[i]? =some d)(q:∀(j:Nat)(r:Oper) cs b,ops[j]? =some r->r.op≠ .select cs b)(z:∀c a w,Q (.panic c) (a.put d.dst v) w->Q (.panic c) a w)(Xp:i≠b)(y:∀(listed:Array Bool) j,Inv listed->j∈Region.ready .any ops listed->j≠i->Inv (listed.setIfInBounds j true))(hS1:∀(listed:Array Bool) w,Inv listed->(listed.getD b true=true\/S w)->R w->S1 w):∀(m:Nat)(listed:Array Bool)(a:Act)(w:World),(∀j g,ops[j]? =some g->j≠i->listed.getD j true=false->(∀e∈g.after,Region.binds .any e=true->e.on≠i)->d.apart ops g=true)->i∈Region.ready .any ops listed->YieldsIf P ops S1 d v a->Inv listed->(listed.getD b true=true\/S w)->R w->wv P ops Q b S R m (listed.setIfInBounds i true) (a.put d.dst v) w->wv P ops Q b S R (m+1) listed a w:=by
 intro m;induction m with
 |zero=>
  intro listed a w _ hr hy hv hS hRw H;refine⟨fun h=>kh,fun j n=> ?_⟩;by_cases EK:j=i;·exact oN
  ·have:=Ib n EK;rw[H.1]at this;cases this
 |succ m C=>
  intro listed a w P4 hr hy hv hS hRw H;refine⟨fun h=>kh,fun j n=> ?_⟩;by_cases EK:j=i;·exact oN
  ·have h1:=H.2 j (Ib n EK);obtain⟨Xs,g,o,Xi⟩:=mem_ready.1 n;have B:∀e∈g.after,Region.binds .any e=true->e.on≠i:=fun e he hb heq=>ep
   have x:=wpOp_putIf o (P4 j g o EK Xs B) (fun cs b=>q i d cs b hi) (fun cs b=>q j g cs b o) z hy h1;have A:∀k ok,ops[k]? =some ok->k≠i->(listed.setIfInBounds j true).getD k true=false->(∀e∈ok.after,Region.binds .any e=true->e.on≠i)->d.apart ops ok=true:=fun k ok hk hki hun hno=>fG
   have p:∀w',(((listed.setIfInBounds i true).setIfInBounds j true).getD b true=true\/S w')->((listed.setIfInBounds j true).getD b true=true\/S w'):=fun w' h=>iM
   refine uU (fun t w' l=>⟨⟨p _ l.2.1.1,l.2.1.2⟩,C (listed.setIfInBounds j true) t w' A (Ib hr (Ak EK)) l.1 (y _ _ hv n EK) (p _ l.2.1.1) l.2.1.2 ?_⟩) x;rw[Array.setIfInBounds_comm _ _ EK];exact l.2.2
def W1{i:Nat}{g:Oper}{v:Value}{k:Nat}{d:Array Bool}{a:Act}{w:World}(m:ops[i]? =some g)(y:Region.noSelect ops=true)(x:Region.free .any ops d i=true)(hr:(Region.ready .any ops d).contains i=true)(Xp:(i !=b)=true)(l:List Nat)(PZ:Cb ops i l=true)(z:(i::l).all (fun q=> !d.getD q true)=true)(hl:l.contains b=true)(n:∀c a w,Q (.panic c) (a.put g.dst v) w->Q (.panic c) a w)(A:YieldsIf P ops S g v a)(t:S w)(r:R w)(h:wv P ops Q b S R k (d.setIfInBounds i true) (a.put g.dst v) w):wv P ops Q b S R (k+1) d a w:=by
 refine G7 (S1:=S) (Inv:=fun lst=>∀q∈i::l,lst.getD q true=false) m (zh y) n jQ ?_ ?_ k d a w (B2 m x) jx A ?_ (.inr t) r h;·exact cC
 ·intro lst w' hv hc _;exact gj
 ·intro q hq;have:=wG.1 z q hq;exact eV
def Kl{i:Nat}{e:Oper}{v:Value}{g:Nat}{d:Array Bool}{a:Act}{w:World}(j:ops[i]? =some e)(o:Region.noSelect ops=true)(n:Region.free .any ops d i=true)(hr:(Region.ready .any ops d).contains i=true)(Xp:(i !=b)=true)(k:∀c a w,Q (.panic c) (a.put e.dst v) w->Q (.panic c) a w)(p:YieldsIf P ops (fun _=>True) e v a)(m:S w)(l:R w)(h:wv P ops Q b S R g (d.setIfInBounds i true) (a.put e.dst v) w):wv P ops Q b S R (g+1) d a w:=G7 (S1:=fun _=>True) (Inv:=fun _=>True) j (zh o) k jQ (fun _ _ _ _ _=>trivial) (fun _ _ _ _ _=>trivial) g d a w (B2 j n) jx p trivial (.inr m) l h
def NU{i:Nat}{e:Oper}{v:Value}{g:Nat}{d:Array Bool}{a:Act}{w:World}(j:ops[i]? =some e)(o:Region.noSelect ops=true)(n:Region.free .any ops d i=true)(hr:(Region.ready .any ops d).contains i=true)(Xp:(i !=b)=true)(k:∀c a w,Q (.panic c) (a.put e.dst v) w->Q (.panic c) a w)(p:YieldsIf P ops R e v a)(m:S w)(l:R w)(h:wv P ops Q b S R g (d.setIfInBounds i true) (a.put e.dst v) w):wv P ops Q b S R (g+1) d a w:=G7 (S1:=R) (Inv:=fun _=>True) j (zh o) k jQ (fun _ _ _ _ _=>trivial) (fun _ _ _ _ h=>h) g d a w (B2 j n) jx p trivial (.inr m) l h
def NS{e:List Nat}{g:Nat}{d:Array Bool}{a:Act}{w:World}(j:Region.ready .any ops d=e)(m:e≠ [])(h:∀i∈e,wpOp P ops Q i (fun k w'=>(((d.setIfInBounds i true).getD b true=true\/S w')/\R w')/\wv P ops Q b S R g (d.setIfInBounds i true) k w') a w):wv P ops Q b S R (g+1) d a w:=⟨fun l=>absurd (j▸l) m,j▸h⟩
end
def LV(ops:Array Oper)(mk rd:List Nat)(b:Nat)(σ2:sA):sA->Array Bool->Bool
 | .nil,a=>Region.ready .any ops a== [b]&&(b<a.size)&&AG ops mk σ2 (a.setIfInBounds b true)
 | .cons i p,a=>(if mk.contains i then Region.ready .any ops a== [i]else(i !=b)&&Region.free .any ops a i&&(Region.ready .any ops a).contains i&&(!rd.contains i||match Ul ops b ops.size i with|some l=>Cb ops i l&&(i::l).all (fun q=> !a.getD q true)&&l.contains b|none=>false))&&LV ops mk rd b σ2 p (a.setIfInBounds i true)
 | .fork i p j q,a=>Region.ready .any ops a== [i,j]&&LV ops mk rd b σ2 p (a.setIfInBounds i true)&&LV ops mk rd b σ2 q (a.setIfInBounds j true)
section
variable{P:Program}{ops:Array Oper}{Q:Exit->Act->World->Prop}{mk rd:List Nat}{b:Nat}{σ2:sA}{K Kp:Nat->World->World->Prop}{ra:List Nat}
def vV(P:Program)(ops:Array Oper)(Q:Exit->Act->World->Prop)(mk rd ra:List Nat)(b:Nat)(σ2:sA)(K Kp:Nat->World->World->Prop):sA->Nat->Act->World->Prop
 | .nil,_,a,w=>wpOp P ops Q b (fun e w'=>Kp 0 w w'/\wY P ops Q mk (fun _=>Kp 0) σ2 0 e w') a w
 | .cons i p,h,a,w=>∃g,ops[i]? =some g/\∃d,h<=d/\if mk.contains i then wpOp P ops Q i (fun e w'=>(K d w w'/\Kp 0 w w')/\vV P ops Q mk rd ra b σ2 K Kp p d e w') a w else if rd.contains i then∃v,YieldsIf P ops (K d w) g v a/\vV P ops Q mk rd ra b σ2 K Kp p d (a.put g.dst v) w else if ra.contains i then∃v,YieldsIf P ops (Kp 0 w) g v a/\vV P ops Q mk rd ra b σ2 K Kp p d (a.put g.dst v) w else∃v,YieldsIf P ops (fun _=>True) g v a/\vV P ops Q mk rd ra b σ2 K Kp p d (a.put g.dst v) w
 | .fork i p j q,h,a,w=>∃d,h<=d/\wpOp P ops Q i (fun e w'=>(K d w w'/\Kp 0 w w')/\vV P ops Q mk rd ra b σ2 K Kp p d e w') a w/\wpOp P ops Q j (fun e w'=>(K d w w'/\Kp 0 w w')/\vV P ops Q mk rd ra b σ2 K Kp q d e w') a w
def AB(n:Aq K)(m:Aq Kp)(y:Region.noSelect ops=true)(r:∀c(a:Act) d v w,Q (.panic c) (a.put d v) w->Q (.panic c) a w):∀(E:sA)(e H:Nat)(D:Array Bool)(a:Act)(w:World),E.deep+1+σ2.deep<=e->LV ops mk rd b σ2 E D=true->vV P ops Q mk rd ra b σ2 K Kp E H a w->wv P ops Q b (K H w) (Kp 0 w) e D a w
 | .nil,e,H,D,a,w,hf,A,h=>
 by
  obtain⟨e,rfl⟩:∃k,e=k+1:=⟨e-1,V⟩;simp only[sA.deep]at hf;simp only[LV,rO,tl,sd]at A;obtain⟨⟨I,a5⟩,B⟩:=A;have Y:(D.setIfInBounds b true).getD b true=true:=by simp[a5]
  refine NS I bA fun j hj=> ?_
  obtain rfl:j=b:=fK;refine uU (fun F w' g=>⟨⟨.inl Y,g.1⟩,?_⟩) h;exact Ca Mem.ug (fun x o=>m.trans g.1 o) _ _ _ _ (G8 (R:=Kp 0 w') _ _ _ _ Y (yu (K:=fun _=>Kp 0) ⟨fun _ w=>m.refl 0 w,fun h k=>m.trans h k,fun h _=>h⟩ y r σ2 e 0 _ F w' V B g.2))
 | .cons i E,e,H,D,a,w,hf,A,h=>
 by
  obtain⟨e,rfl⟩:∃k,e=k+1:=⟨e-1,eU⟩;simp only[sA.deep]at hf;obtain⟨a7,U,z,N,t⟩:=h;simp only[LV,rO]at A;obtain⟨G,B⟩:=A;refine Ca (S':=K z w) (R':=Kp 0 w) (fun w' hb=>n.mono hb N) Mem.ug _ _ _ _ ?_;by_cases Z:mk.contains i=true
  ·rw[rG Z]at G t;have I:Region.ready .any ops D=[i]:=by simpa using G
   refine NS I bA fun j hj=> ?_
   obtain rfl:j=i:=fK;refine uU (fun F w' g=>⟨⟨.inr g.1.1,g.1.2⟩,?_⟩) t;exact Ca (fun x o=>n.trans g.1.1 o) (fun x o=>m.trans g.1.2 o) _ _ _ _ (AB n m y r E e z _ F w' V B g.2)
  ·rw[rB Z]at G t;simp only[rO]at G;obtain⟨⟨⟨W,T⟩,X⟩,C⟩:=G;by_cases O:rd.contains i=true
   ·rw[rG O]at t;obtain⟨v,M,L⟩:=t;rw[O]at C;simp only[tM,uA]at C;split at C;·rename_i l a6;simp only[rO]at C;exact W1 U y T X W l C.1.1 C.1.2 C.2 (fun c a w=>r c a _ v w) M (n.refl _ _) (m.refl _ _) (AB n m y r E e z _ _ w V B L)
    ·cases C
   ·rw[rB O]at t;by_cases a0:ra.contains i=true;·rw[rG a0]at t;obtain⟨v,M,L⟩:=t;exact NU U y T X W (fun c a w=>r c a _ v w) M (n.refl _ _) (m.refl _ _) (AB n m y r E e z _ _ w V B L)
    rw[rB a0]at t;obtain⟨v,M,L⟩:=t;exact Kl U y T X W (fun c a w=>r c a _ v w) M (n.refl _ _) (m.refl _ _) (AB n m y r E e z _ _ w V B L)
 | .fork i p j q,e,H,D,a,w,hf,A,h=>
 by
  obtain⟨e,rfl⟩:∃k,e=k+1:=⟨e-1,eU⟩;simp only[sA.deep]at hf;obtain⟨z,N,a1,a2⟩:=h;simp only[LV,rO]at A;obtain⟨⟨a3,G⟩,B⟩:=A;refine Ca (S':=K z w) (R':=Kp 0 w) (fun w' hb=>n.mono hb N) Mem.ug _ _ _ _ ?_;have I:Region.ready .any ops D=[i,j]:=by simpa using a3
  refine NS I bA fun k hk=> ?_
  have a4:k=i\/k=j:=ki;rcases a4 with rfl|rfl;·refine uU (fun F w' g=>⟨⟨.inr g.1.1,g.1.2⟩,?_⟩) a1;exact Ca (fun x o=>n.trans g.1.1 o) (fun x o=>m.trans g.1.2 o) _ _ _ _ (AB n m y r p e z _ F w' V G g.2)
  ·refine uU (fun F w' g=>⟨⟨.inr g.1.1,g.1.2⟩,?_⟩) a2;exact Ca (fun x o=>n.trans g.1.1 o) (fun x o=>m.trans g.1.2 o) _ _ _ _ (AB n m y r q e z _ F w' V B g.2)
def Dq(g:Aq K)(i:Aq Kp){o:Nat}{a:Act}{w:World}(e:sA)(b:Nat)(σ2:sA)(mk rd ra:List Nat)(m:P.follows .mixedOrders=true)(n:Region.noSelect ops=true)(l:e.deep+1+σ2.deep<=ops.size)(k:LV ops mk rd b σ2 e (Array.replicate ops.size false)=true)(j:∀c(a:Act) d v w,Q (.panic c) (a.put d v) w->Q (.panic c) a w)(h:∀wd:World,afv w wd->wd.heap.size=w.heap.size->vV P ops Q mk rd ra b σ2 K Kp e 0 a wd):(Code.region o ops true).wp P Q a w:=wp_region_any m (F1 (b:=b) (S:=K 0 w.drew) (R:=Kp 0 w.drew) _ _ _ _ (AB g i n j e _ 0 _ a _ l k (h w.drew xn.drew rfl)))
def Gq{i:Nat}{m:sA}{e:Nat}{a:Act}{w:World}{d:Option Tmp}{k:Op}{ty:TypeId}{l:String}{g:Array Edge}{j:Option (Nat×Bool)}(p:mk.contains i=false)(n:rd.contains i=false)(q:ra.contains i=false)(o:ops[i]? =some ⟨d,k,ty,l,g,j⟩)(hw:Region.wanted ⟨d,k,ty,l,g,j⟩ (yielded ops a.tmps)=true){v:Value}(hy:∀w',(execOp a.eval ⟨d,k,ty,l,g,j⟩).run P w'=.ok (.value v) w')(h:vV P ops Q mk rd ra b σ2 K Kp m e (a.put d v) w):vV P ops Q mk rd ra b σ2 K Kp (.cons i m) e a w:=⟨_,o,e,rZ _,by rw[p,rB bA,n,rB bA,q,rB bA];exact jo⟩
def Gr{i:Nat}{n:sA}{m:Nat}{a:Act}{w:World}{e:Option Tmp}{k:Op}{ty:TypeId}{l:String}{g:Array Edge}{j:Option (Nat×Bool)}(hm:mk.contains i=false)(hd:rd.contains i=true)(p:ops[i]? =some ⟨e,k,ty,l,g,j⟩)(hw:Region.wanted ⟨e,k,ty,l,g,j⟩ (yielded ops a.tmps)=true)(d:Nat)(o:m<=d)(v:Value)(hy:∀w',K d w w'->(execOp a.eval ⟨e,k,ty,l,g,j⟩).run P w'=.ok (.value v) w')(h:vV P ops Q mk rd ra b σ2 K Kp n d (a.put e v) w):vV P ops Q mk rd ra b σ2 K Kp (.cons i n) m a w:=⟨_,p,d,o,o7⟩
def Gs{i:Nat}{m:sA}{d:Nat}{a:Act}{w:World}{e:Option Tmp}{k:Op}{ty:TypeId}{l:String}{g:Array Edge}{j:Option (Nat×Bool)}(p:mk.contains i=false)(n:rd.contains i=false)(q:ra.contains i=false)(o:ops[i]? =some ⟨e,k,ty,l,g,j⟩)(hw:Region.wanted ⟨e,k,ty,l,g,j⟩ (yielded ops a.tmps)=false)(h:vV P ops Q mk rd ra b σ2 K Kp m d (a.put e undef) w):vV P ops Q mk rd ra b σ2 K Kp (.cons i m) d a w:=⟨_,o,d,rZ _,by rw[p,rB bA,n,rB bA,q,rB bA];exact kJ⟩
def zt{i:Nat}{q:sA}{j:Nat}{a:Act}{w:World}{l:Option Tmp}{o:Op}{ty:TypeId}{p:String}{k:Array Edge}{m:Option (Nat×Bool)}(x:mk.contains i=true)(n:ops[i]? =some ⟨l,o,ty,p,k,m⟩)(e:Nat)(t:j<=e)(h:∀d:Exit->Act->World->Prop,(∀g w',K e w w'->Kp 0 w w'->vV P ops Q mk rd ra b σ2 K Kp q e g w'->d .normal g w')->wpList P ops d [⟨l,o,ty,p,k,m⟩] a w):vV P ops Q mk rd ra b σ2 K Kp (.cons i q) j a w:=⟨_,n,e,t,by rw[x,rG rfl];exact yC n (fun d r=>h d (fun g w' hb v y=>r g w' ⟨⟨hb,v⟩,y⟩))⟩
def NT{m:Nat}{a:Act}{w:World}{i:Option Tmp}{k:Op}{ty:TypeId}{l:String}{g:Array Edge}{j:Option (Nat×Bool)}(o:ops[b]? =some ⟨i,k,ty,l,g,j⟩)(h:∀d:Exit->Act->World->Prop,(∀e w',Kp 0 w w'->wY P ops Q mk (fun _=>Kp 0) σ2 0 e w'->d .normal e w')->wpList P ops d [⟨i,k,ty,l,g,j⟩] a w):vV P ops Q mk rd ra b σ2 K Kp .nil m a w:=yC o (fun d n=>h d (fun e w' hb p=>n e w' ⟨hb,p⟩))
def B9{i:Nat}{m:sA}{e:Nat}{a:Act}{w:World}{d:Option Tmp}{k:Op}{ty:TypeId}{l:String}{g:Array Edge}{j:Option (Nat×Bool)}(p:mk.contains i=false)(n:rd.contains i=false)(q:ra.contains i=true)(o:ops[i]? =some ⟨d,k,ty,l,g,j⟩)(hw:Region.wanted ⟨d,k,ty,l,g,j⟩ (yielded ops a.tmps)=true)(v:Value)(hy:∀w',Kp 0 w w'->(execOp a.eval ⟨d,k,ty,l,g,j⟩).run P w'=.ok (.value v) w')(h:vV P ops Q mk rd ra b σ2 K Kp m e (a.put d v) w):vV P ops Q mk rd ra b σ2 K Kp (.cons i m) e a w:=⟨_,o,e,rZ _,by rw[p,rB bA,n,rB bA,q,rG rfl];exact jp⟩
def Kk{i j:Nat}{p q:sA}{g:Nat}{a:Act}{w:World}{o r:Option Tmp}{x y:Op}{ty B:TypeId}{z A:String}{m n:Array Edge}{t v:Option (Nat×Bool)}(E:ops[i]? =some ⟨o,x,ty,z,m,t⟩)(F:ops[j]? =some ⟨r,y,B,A,n,v⟩)(C:∀d:Exit->Act->World->Prop,(∀e w',K g w w'->Kp 0 w w'->vV P ops Q mk rd ra b σ2 K Kp p g e w'->d .normal e w')->wpList P ops d [⟨o,x,ty,z,m,t⟩] a w)(D:∀d:Exit->Act->World->Prop,(∀e w',K g w w'->Kp 0 w w'->vV P ops Q mk rd ra b σ2 K Kp q g e w'->d .normal e w')->wpList P ops d [⟨r,y,B,A,n,v⟩] a w):vV P ops Q mk rd ra b σ2 K Kp (.fork i p j q) g a w:=⟨g,rZ _,yC E (fun d h=>C d (fun e w' hb k l=>h e w' ⟨⟨hb,k⟩,l⟩)),yC F (fun d h=>D d (fun e w' hb k l=>h e w' ⟨⟨hb,k⟩,l⟩))⟩
end
