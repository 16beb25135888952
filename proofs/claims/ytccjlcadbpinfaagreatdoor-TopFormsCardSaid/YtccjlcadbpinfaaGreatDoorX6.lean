import Derived.Test.YtccjlcadbpinfaaGreatDoorX5
import Derived.Test.YtccjlcadbpinfaaGreatDoorX4
import Derived.WalkMore
set_option linter.all false
set_option maxRecDepth 100000
set_option maxHeartbeats 8000000
namespace Go.Proofs.YtccjlcadbpinfaaGreatDoor.Tp
open ChangeShapes WideShapes ChangeAt RowKit
open Num Mem Can
def NK(a b:Nat)(h:a<2147483648)(hb:b<2147483648):bits .or .i32 (a:Int) (b:Int)=((a|||b:Nat):Int):=by
 show IntKind.i32.wrap ((BitVec.ofInt 32 (a:Int)|||BitVec.ofInt 32 (b:Int)).toNat:Int)=_;have d:(BitVec.ofInt 32 (a:Int)).toNat=a:=by rw[BitVec.toNat_ofInt];omega
 have e:(BitVec.ofInt 32 (b:Int)).toNat=b:=by rw[BitVec.toNat_ofInt];omega
 rw[BitVec.toNat_or,d,e];have g:a|||b<2^31:=Nat.or_lt_two_pow V V;exact bM
def QF(n d:Nat)(h:n<65536)(b:d<16):bits .or .i32 ((n*16:Nat):Int) (d:Int)=((n*16+d:Nat):Int):=by rw[NK _ _ V V];congr 1;have:=Nat.two_pow_add_eq_or_of_lt (i:=4) (show d<2^4 from V) n;rw[Nat.mul_comm n 16];exact this.symm
def BN:acM:=[48,49,50,51,52,53,54,55,56,57,97,98,99,100,101,102]
def FC(c:UInt8):Option Nat:=if 48<=c.toNat/\c.toNat<=57 then some (c.toNat-48)else if 97<=c.toNat/\c.toNat<=102 then some (c.toNat-87)else if 65<=c.toNat/\c.toNat<=70 then some (c.toNat-55)else none
def FD(c:UInt8):UInt8:=if 65<=c.toNat/\c.toNat<=70 then UInt8.ofNat (c.toNat+32)else c
def XP:∀c:UInt8,Lib.indexByte BN (FD c)=match FC c with|some d=>(d:Int)|none=> -1:=by
 have key:∀k:Fin 256,Lib.indexByte BN (FD (UInt8.ofNat k.val))=match FC (UInt8.ofNat k.val)with|some d=>(d:Int)|none=> -1:=bC
 intro c;have h:=key ⟨c.toNat,c.toNat_lt⟩;simpa using h
def JP{c:UInt8}{d:Nat}(h:FC c=some d):d<16/\c≠0:=by
 have:∀c:UInt8,∀d,FC c=some d->d<16/\c≠0:=by
  intro c d h;unfold FC at h;refine⟨?_,fun e=> ?_⟩
  ·split at h;·injection h;omega
   ·split at h;·injection h;omega
    ·split at h;·injection h;omega
     ·cases h
  ·subst e;simp at h
 exact this c d h
def vg(xs:acM):Nat->Nat->Nat->Int×Nat
 |0,a,v=>(v,a)
 |k+1,a,v=>match FC (pk xs a)with|some d=>vg xs k (a+1) (v*16+d)|none=>(-1,a)
def IU(g:Nat)(A A':acN)(n c m d B a:Nat)(e:Int)(xs:acM)(w:World)(S:wP w g A n c a e A' m d)(a1:g<w.heap.size)(N:Rd w B A n xs)(G:B<=g)(a2:n<=1000000000)(Z:a<=n):Calls Tryz.prog 239 #[.pointer (some ⟨g,0,none⟩)] w fun e' w'=>e'=.returned (.int .i32 (vg xs 4 a 0).1)/\wP w' g A n c (vg xs 4 a 0).2 e A' m d/\rS g w.heap.size w w':=by
 have ab:=N.len;obtain⟨R,D⟩:∃R,R=vg xs 4 a 0:=⟨_,rfl⟩;rw[<-D];have X:=rq D;have Y:=rq S;clear D S;go_enter Tryz.func239,Tryz.ntmps239;go_wp2_with fail;go_loopw [3,4,5,6] (fun v _ _ i wr=>∃(j b u:Nat),i=.int .i64 j/\j<=4/\v=.int .i32 u/\u<16^j/\b<=n/\R=vg xs (4-j) b u/\wP wr g A n c b e A' m d/\rS g w.heap.size w wr/\g<wr.heap.size) (fun _ _ _ i _=>4-(intOf i).toNat);case atStart=>exact⟨0,a,0,rfl,V,rfl,V,Z,X.out,Y.out,rS.refl _ _ _,a1⟩
 case
  round=>
   obtain⟨j,b,u,rfl,a8,rfl,ad,hb,M,C,q,F⟩:=hrel;have E:=N.off q V G;have a4:=q.size;have HQ:=rq M;clear M;rcases(show j=4\/j<4 from V)with rfl|a9;·have h:=HQ.out;rw[show vg xs (4-4) b u=((u:Int),b)from rfl]at h;subst h;go_wp2_with fail;go_ret;exact⟨rfl,C,q⟩
   ·have aa:(j:Int)<4:=V;have U:=C;go_wp2_with fail;refine(ur g A A' n c m d B b e xs wr C F E G a2 hb).mono ?_;rintro e' w3 ⟨rfl,vX⟩;have a3:=U.below vX F;have ac:=E.tw vX V;have W4:g<w3.heap.size:=dm;have Zr:=q.trans ((rS.of vX (g:=g)).mono a4);have U6:w.heap.size<=w3.heap.size:=dm;have L:=XP (pk xs b);have hvl:=fun d=>JP (c:=pk xs b) (d:=d)
    have hpn:pk xs b≠0->b<n:=fun h=>
     by
      rcases sX b n with r|r;·exact r
      ·exact absurd l7 h
    have O:vg xs (4-j) b u=match FC (pk xs b)with|some d=>vg xs (4-(j+1)) (b+1) (u*16+d)|none=>(-1,b):=by rw[show 4-j=(4-(j+1))+1 from V];rfl
    have a7:=(pk xs b).toNat_lt;have H:=Tryz.strings_IndexByte ⟨BN.toArray⟩ ((FD (pk xs b)).toNat:Int);have I:((((FD (pk xs b)).toNat:Nat):Int)).toNat.toUInt8=FD (pk xs b):=bi;have Zx:∀w,Calls Tryz.prog 152 #[.string ⟨#[48,49,50,51,52,53,54,55,56,57,97,98,99,100,101,102]⟩,.int .u8 ((FD (pk xs b)).toNat:Int)] w fun e w'=>e=.returned (.int .i64 (match FC (pk xs b)with|some d=>(d:Int)|none=> -1))/\w'=w:=fun w=>by have h:=H w;rw[I]at h;rw[<-L];exact h
    have ZK:=a3;clear vX U C q E F H I L;have a6:HQ=HQ:=rfl;rw[O]at HQ;generalize a0:pk xs b=cc at*;clear O a0 a6;have t:(65<=cc.toNat/\cc.toNat<=70/\((FD cc).toNat:Int)=(cc.toNat:Int)+32)\/(¬(65<=cc.toNat/\cc.toNat<=70)/\FD cc=cc):=by
     unfold FD;by_cases h:65<=cc.toNat/\cc.toNat<=70;·left;rw[rv h];refine⟨h.1,h.2,?_⟩;exact ca
     ·right;rw[ru h];exact⟨h,rfl⟩
    rcases(show(¬65<=cc.toNat/\FD cc=cc)\/(65<=cc.toNat/\¬cc.toNat<=70/\FD cc=cc)\/(65<=cc.toNat/\cc.toNat<=70/\((FD cc).toNat:Int)=(cc.toNat:Int)+32)from by
     rcases t with⟨o,p,l⟩|⟨o,p⟩;·exact .inr (.inr ⟨o,p,l⟩)
     ·by_cases h:65<=cc.toNat;·exact .inr (.inl ⟨h,fun r=>o ⟨h,r⟩,p⟩)
      ·exact .inl ⟨h,p⟩)with⟨o,l⟩|⟨o,p,l⟩|⟨o,p,l⟩
    ·have W:¬(65:Int)<=cc.toNat:=V;rw[l]at Zx;clear t l o;exact kY
    ·have W:(65:Int)<=cc.toNat:=V;have a5:¬(cc.toNat:Int)<=70:=V;rw[l]at Zx;clear t l o p;exact kY
    ·have W:(65:Int)<=cc.toNat:=V;have a5:(cc.toNat:Int)<=70:=V;rw[l]at Zx;clear t l o p;exact kY
def _root_.Go.Proofs.YtccjlcadbpinfaaGreatDoor.Can.uK.setCell{X:Addr->Prop}{B:Nat}(w:World){p:Addr}(u:Value)(b:X p):uK X B w (w.setCell p u):=⟨by simp[World.setCell],fun q _ d=>zv w p q u (fun e=>d (by rw[<-e];exact b)),fun q _ _=>yj _ _ _ _⟩
def Cz:acM:=[34,92,47,98,102,110,114,116]
def tF:acM:=[34,92,47,8,12,10,13,9]
def JC(c:UInt8):Option UInt8:=if Lib.indexByte Cz c<0 then none else tF[(Lib.indexByte Cz c).toNat]?
def CA(xs:acM)(a:Nat):Int×Nat:=if 55296<=(vg xs 4 (a+1) 0).1/\(vg xs 4 (a+1) 0).1<56320/\pk xs (vg xs 4 (a+1) 0).2=92/\pk xs ((vg xs 4 (a+1) 0).2+1)=117 then(if Ut.uP (vg xs 4 (a+1) 0).1 (vg xs 4 ((vg xs 4 (a+1) 0).2+2) 0).1=0 then-1 else Ut.uP (vg xs 4 (a+1) 0).1 (vg xs 4 ((vg xs 4 (a+1) 0).2+2) 0).1,(vg xs 4 ((vg xs 4 (a+1) 0).2+2) 0).2)else vg xs 4 (a+1) 0
def wD(xs:acM)(a:Nat):Nat×acM×Int:=match JC (pk xs a)with
 |some b=>(a+1,[b],0)
 |none=>if pk xs a≠117 then(a,[],20)else if Ut.yv (CA xs a).1=true then((CA xs a).2,Ut.tW (CA xs a).1.toNat,0)else((CA xs a).2,[],20)
def Nq:∀c:UInt8,(Lib.indexByte Cz c<0/\JC c=none)\/(∃i:Nat,Lib.indexByte Cz c=i/\i<8/\JC c=tF[i]?/\c≠0):=by
 have key:∀k:Fin 256,(Lib.indexByte Cz (UInt8.ofNat k.val)<0/\JC (UInt8.ofNat k.val)=none)\/(Lib.indexByte Cz (UInt8.ofNat k.val)=((Lib.indexByte Cz (UInt8.ofNat k.val)).toNat:Int)/\(Lib.indexByte Cz (UInt8.ofNat k.val)).toNat<8/\JC (UInt8.ofNat k.val)=tF[(Lib.indexByte Cz (UInt8.ofNat k.val)).toNat]?/\UInt8.ofNat k.val≠0):=bC;intro c;have h:=key ⟨c.toNat,c.toNat_lt⟩;simp only[w0]at h;rcases h with h|⟨b,d,e,g⟩;·exact .inl h
 ·exact .inr ⟨_,b,d,e,g⟩
def BM{xs:acM}:∀(k a v:Nat),a<=xs.length->(vg xs k a v).2<=xs.length/\ -1<=(vg xs k a v).1
 |0,a,v,h=>⟨h,by simp only[vg];omega⟩
 |k+1,a,v,h=>
 by
  unfold vg;split
  ·rename_i d b;refine BM k (a+1) _ ?_;rcases sX a xs.length with h'|h';·omega
   ·exact absurd kT (JP b).2
  ·exact⟨h,bi⟩
def Cy(l:acM):Lib.bytesOf (l.map fun x=>(x.toNat:Int))=l:=by
 unfold Lib.bytesOf;rw[Gi];conv=>rhs;rw[<-UZ l]
 apply KV;intro x _;simp
def TY{w:World}{B n:Nat}{A:acN}{l:acM}(h:Rd w B A n l):Lib.BytesIn w A n (l.map fun x=>(x.toNat:Int)):=fun k=>
 by
  obtain⟨b,m,e,_,g⟩:=h.2 k;refine⟨b,m,e,fun i j=> ?_⟩;have d:i<l.length:=by rw[h.1];exact j
  have:=g i l[i] (ry d);rw[this];simp[List.getD,d,bc]
def Wf(xs:acM)(a:Nat):Lib.hasPrefix (xs.drop a) [92,117]=true↔xs[a]?.getD 0=92/\xs[a+1]?.getD 0=117:=by
 unfold Lib.hasPrefix;rw[List.isPrefixOf_iff_prefix];constructor
 ·rintro⟨r,j⟩;have b:(xs.drop a)[0]? =some 92:=by rw[<-j];rfl
  have d:(xs.drop a)[1]? =some 117:=by rw[<-j];rfl
  rw[z6]at b d;rw[si]at b;rw[b,d];exact bH
 ·rintro⟨b,d⟩;have e:a<xs.length:=by
   rcases sX a xs.length with h|h;·exact h
   ·rw[ta h]at b;exact absurd b bD
  have g:a+1<xs.length:=by
   rcases sX (a+1) xs.length with h|h;·exact h
   ·rw[ta h]at d;exact absurd d bD
  rw[ry e]at b;rw[ry g]at d;refine⟨xs.drop (a+1+1),?_⟩;rw[rH e,rH g];simp only[Option.getD_some]at b d;rw[b,d];rfl
def JM{xs:acM}:∀(k a v:Nat),(vg xs k a v).1<((v+1)*16^k:Nat)
 |0,a,v=>by simp only[vg];omega
 |k+1,a,v=>
 by
  unfold vg;split
  ·rename_i b d;have e:=JM (xs:=xs) k (a+1) (v*16+b);have g:=(JP d).1;have j:(v*16+b+1)*16^k<=(v+1)*16^(k+1):=by rw[PO,Nat.mul_comm (16^k) 16,<-Nat.mul_assoc];exact Nat.mul_le_mul_right _ V
   omega
  ·have:0<(v+1)*16^(k+1):=Nat.mul_pos V (Nat.pow_pos V);exact bd
def FZ(A:acN)(k d b:Nat)(N:Int)(ts:acM)(n: -1<=N)(o:N<=1114111)(w:World)(j:Own w b A k d ts)(hb:b<=w.heap.size)(l:k<=1000000000):Calls Tryz.prog 241 #[.slice A k d,.int .i32 N] w fun e w'=>∃A' n' c',e=.returned (.tuple #[.slice A' n' c',.int .i64 (if Ut.yv N=true then 0 else 2)])/\Own w' b A' n' c' (ts++(if Ut.yv N=true then Ut.tW N.toNat else []))/\Below b w w':=by
 by_cases h:Ut.yv N=true;·obtain⟨c,rfl⟩:=tD (show 0<=N from((Ut.Bm N).1 h).1);rw[rv h,rv h];refine(Ut.Wh A k d b c ts h w j hb l).mono ?_;rintro e w' ⟨A',n',c',rfl,rfl,m,g⟩;exact⟨A',_,c',rfl,by simpa using m,g⟩
 ·rw[ru h,ru h,sw];refine(Ut.Wg A k d N V V dC w).mono ?_;rintro e w' ⟨rfl,g⟩;exact⟨A,k,d,rfl,j.below g,g.mono hb⟩
def Nr(g:Nat)(A A':acN)(n c m d B a:Nat)(xs ts:acM)(w:World)(t:wP w g A n c a 0 A' m d)(I:g<w.heap.size)(F:Rd w B A n xs)(r:B<=g)(X:n<=1000000000)(dd:n<=c)(b2:a<=n)(base:Nat)(ND:g<base)(dK:base<=w.heap.size)(Y:Own w base A' m d ts)(hm:m<=1000000000):Calls Tryz.prog 226 #[.pointer (some ⟨g,0,none⟩)] w fun e' w'=>e'=.returned (.tuple #[])/\∃bp d0 ac,wP w' g A n c (wD xs a).1 (wD xs a).2.2 bp d0 ac/\Own w' base bp d0 ac (ts++(wD xs a).2.1)/\rS g base w w':=by
 have e4:=F.len;have S:=fun w=>Tryz.strings_IndexByte ⟨Cz.toArray⟩ ((pk xs a).toNat:Int) w
 have b7:((((pk xs a).toNat:Nat):Int)).toNat.toUInt8=pk xs a:=bi;simp only[b7]at S;rcases Nq (pk xs a)with⟨ad,R⟩|⟨i,ad,hi8,R,c9⟩
 ·have o:wD xs a=if pk xs a≠117 then(a,[],20)else if Ut.yv (CA xs a).1=true then((CA xs a).2,Ut.tW (CA xs a).1.toNat,0)else((CA xs a).2,[],20):=by unfold wD;rw[R]
  have q:∀w,Calls Tryz.prog 152 #[.string ⟨#[34,92,47,98,102,110,114,116]⟩,.int .u8 ((pk xs a).toNat:Int)] w fun e w'=>e=.returned (.int .i64 (Lib.indexByte Cz (pk xs a)))/\w'=w:=fun w=>S w
  generalize Lib.indexByte Cz (pk xs a)=bO at*;clear S b7 R;have dk:decide (0<=bO)=false:=by simp;omega
  have e5:=(pk xs a).toNat_lt;by_cases hu:pk xs a=117
  ·rw[ru (by simp[hu])]at o;have d7:a<n:=by
    rcases sX a n with H|H;·exact H
    ·exact pt
   obtain⟨l,a4,j⟩:∃l a4,CA xs a=(l,a4):=⟨_,_,rfl⟩;have cf:wD xs a=(a4,(if Ut.yv l=true then Ut.tW l.toNat else []),(if Ut.yv l=true then 0 else 20)):=by rw[o,j];simp only;split<;>rfl
   have bz:=rq j;rw[cf];clear cf j;simp only;obtain⟨bs,ak⟩:∃bs:Int,bs=(if Ut.yv l=true then 0 else 20):=⟨_,rfl⟩;obtain⟨c3,b1⟩:∃c3,c3=(if Ut.yv l=true then Ut.tW l.toNat else []):=⟨_,rfl⟩;rw[<-ak,<-b1];have HEE:=rq ak;have Y4:=rq b1;clear ak b1;have cp:∀w,Calls Tryz.prog 152 #[.string ⟨#[34,92,47,98,102,110,114,116]⟩,.int .u8 117] w fun e w'=>e=.returned (.int .i64 bO)/\w'=w:=fun w=>by have h:=q w;rw[hu]at h;exact h
   go_enter Tryz.func226,Tryz.ntmps226;go_wp2_with fail;refine(ur g A A' n c m d B a 0 xs w t I F r X b2).mono ?_;rintro e' w1 ⟨rfl,De⟩;have G:=t.below De I;have D:=Y.below De;have a8:=F.tw De V;have a9:base<=w1.heap.size:=gP;have v:rS g base w w1:=rS.of (De.mono V);clear De;rw[hu];clear q;have q:=cp;go_wp2_with fail;refine(q w1).mono ?_;rintro e' ab ⟨rfl,rfl⟩;go_wp2_with fail;refine su [0,1,2,3,4,5,6,7,8,9,10,11,12,13] [] bg bg bi bg (fun _ _ d _ _ h=>bw) (fun wd hd sW=> ?_);have FK:=rq (wP.below G hd V);have E:=D.below (hd.mono rT);have b9:=a8.tw hd V;have C:=v.trans (rS.of (hd.mono V));have L:base<=wd.heap.size:=V;clear hd sW;refine ae ?_;refine sn ?_;obtain⟨⟨r0,r1,r2,r3⟩,k1,k2,k3⟩:=FK.out;have an:=BM (xs:=xs) 4 (a+1) 0 V;go_wp2_with fail;have N:wP (wd.setCell ⟨g,1,none⟩ (.int .i64 ((a:Int)+1))) g A n c ((a+1:Nat):Int) 0 A' m d:=oV;have Z:=E.setAt (ND) 1 (.int .i64 ((a:Int)+1));have be:=b9.tw ((Below.refl g wd).setAt 1 (.int .i64 ((a:Int)+1))) r;have U:=C.setAt 1 (.int .i64 ((a:Int)+1));have bn:base<=(wd.setCell ⟨g,1,none⟩ (.int .i64 ((a:Int)+1))).heap.size:=by simpa using L
   clear r0 r1 r2 r3 k1 k2 k3 FK E b9 C L G D a8 v a9 q cp;generalize wd.setCell ⟨g,1,none⟩ (.int .i64 ((a:Int)+1))=d1 at*;refine(IU g A A' n c m d B (a+1) 0 xs d1 N V be r X V).mono ?_;rintro e' dj ⟨rfl,XW,W⟩;have D1:=Z.off W (ND);have hr4:=be.off W V r;have FB:=U.trans (W.mono V);have ZI:base<=dj.heap.size:=by have:=W.size;omega
   clear W N Z be U bn t F Y hu o;obtain⟨N1,aU⟩:∃N1,N1=(vg xs 4 (a+1) 0).1:=⟨_,rfl⟩;obtain⟨a1,b3⟩:∃a1,a1=(vg xs 4 (a+1) 0).2:=⟨_,rfl⟩;have cc:=JM (xs:=xs) 4 (a+1) 0;rw[<-aU]at an cc|-;rw[<-b3]at an XW;simp only[show((0+1)*16^4:Nat)=65536 from bD]at cc;have j:(if 55296<=N1/\N1<56320/\pk xs a1=92/\pk xs (a1+1)=117 then((if Ut.uP N1 (vg xs 4 (a1+2) 0).1=0 then-1 else Ut.uP N1 (vg xs 4 (a1+2) 0).1),(vg xs 4 (a1+2) 0).2)else(N1,a1))=(l,a4):=by rw[<-bz.out,aU,b3];rfl
   clear bz aU b3;obtain⟨dz,dB⟩:=an;by_cases hsu:55296<=N1/\N1<56320
   ·obtain⟨c7,c8⟩:=hsu;have a7:=Wf xs a1;have c4:decide (55296<=N1)=true:=by simp[c7]
    have d6:decide (N1<56320)=true:=by simp[c8]
    have ds:((a1:Nat):Int)<=n:=V;go_wp2_with fail;refine su [0,1,2,3,4,5,6,7,8,9,10,11,12,13,14,15,16,17,18] [16,17] bg bg bi bg (fun _ _ d _ _ h=>bw) (fun wd hd sW=> ?_);have KC:=rq (wP.below XW hd V);have JQ:=D1.below (hd.mono rT);have bj:=hr4.tw hd V;have Dx:=FB.trans (rS.of (hd.mono V));have QA:base<=wd.heap.size:=V;clear hd sW XW D1 FB ZI hr4;iterate 15 ((first|(refine sJ rfl rfl rfl bh ?_)|(refine sN rfl rfl rfl ?_)|(refine sM rfl rfl rfl (g+1) V _ mV ?_));simp only[Act.put,rB,rz,rA])
    refine OK (p:=a1) rfl rfl rfl rfl rfl bj V dd (fun d2 cs=> ?_);simp only[Act.put,rB,rz,rA];refine sB rfl rfl wd.heap.size V (fun Q1 sP=> ?_);go_wp2_with fail;refine sP _ _ (vK.alloc rT _) ?_;clear sP;have cl:Lib.BytesIn (wd.alloc (.cells #[.int .u8 92,.int .u8 117] 5)) (some ⟨wd.heap.size,0,none⟩) 2 [92,117]:=fun _=>⟨wd.heap.size,0,rfl,fun i e0=>by rcases(show i=0\/i=1 from V)with rfl|rfl<;>go_simp⟩
    have cj:=TY (cs.alloc V (.cells #[.int .u8 92,.int .u8 117] 5));have b8:=Tryz.bytes_HasPrefix_all d2 (some ⟨wd.heap.size,0,none⟩) (n-a1) (c-a1) 2 2 _ [92,117] (wd.alloc (.cells #[.int .u8 92,.int .u8 117] 5)) (by rw[sD,sx];omega) rfl V cj cl;rw[Cy,show Lib.bytesOf [92,117]=[92,117]from rfl]at b8;have GZ:=Dx.trans (rS.of (((acQ wd).al rT (.cells #[.int .u8 92,.int .u8 117] 5)).mono V));have LH:=JQ.alloc (.cells #[.int .u8 92,.int .u8 117] 5);have bk:=bj.alloc V (.cells #[.int .u8 92,.int .u8 117] 5);have Rx:=KC.out.below ((acQ wd).al rT (.cells #[.int .u8 92,.int .u8 117] 5)) V;have W5:base<=(wd.alloc (.cells #[.int .u8 92,.int .u8 117] 5)).heap.size:=by simp;omega
    have cx:wd.heap.size<=(wd.alloc (.cells #[.int .u8 92,.int .u8 117] 5)).heap.size:=bi;clear cl cj cs KC JQ Dx bj;generalize wd.alloc (.cells #[.int .u8 92,.int .u8 117] 5)=w5 at*;refine sB rfl rfl wd.heap.size rT (fun Q1 sP=> ?_);go_wp2_with fail;refine b8.mono ?_;rintro e' w6 ⟨rfl,rfl⟩;go_wp2_with fail;refine sP _ _ vK ?_;clear sP b8;generalize Lib.hasPrefix (xs.drop a1) [92,117]=d4 at*;refine ag ?_;refine sn ?_;have JQ:=LH;have Dx:=GZ;have QA:=W5;have KC:=rq Rx;cases d4
    ·have cr:¬(55296<=N1/\N1<56320/\pk xs a1=92/\pk xs (a1+1)=117):=fun h=>by have:=a7.2 ⟨h.2.2.1,h.2.2.2⟩;cases this
     rw[ru cr]at j;injection j with e1 e2;subst e1 e2;clear cr a7 LH GZ W5 Rx bk cx;obtain⟨⟨r0,r1,r2,r3⟩,k1,k2,k3⟩:=KC.out;have Ik:base<=w6.heap.size:=QA;have yr:=FZ A' m d base N1 ts V V w6 JQ Ik hm;exact kZ
    ·obtain⟨p1,p2⟩:=a7.1 rfl;have cS:55296<=N1/\N1<56320/\pk xs a1=92/\pk xs (a1+1)=117:=⟨c7,c8,p1,p2⟩;rw[rv cS]at j;injection j with e1 e2;have dI:a1+1<n:=by
      rcases sX (a1+1) n with h|h;·exact h
      ·rw[ta V]at p2;exact absurd p2 bD
     have ar:=BM (xs:=xs) 4 (a1+2) 0 V;have cb:=JM (xs:=xs) 4 (a1+2) 0;simp only[show((0+1)*16^4:Nat)=65536 from bD]at cb;clear cS a7 p1 p2;obtain⟨O,b0⟩:∃O,O=(vg xs 4 (a1+2) 0).1:=⟨_,rfl⟩;obtain⟨a2,b4⟩:∃a2,a2=(vg xs 4 (a1+2) 0).2:=⟨_,rfl⟩;rw[<-b0]at ar cb e1;rw[<-b4]at ar e2;subst e2;have a0:=rq e1;have bx:=rq b0;have bv:=rq b4;obtain⟨e7,e8⟩:=ar;clear e1 b0 b4;obtain⟨⟨r0,r1,r2,r3⟩,k1,k2,k3⟩:=KC.out;go_wp2_with fail;have br:wP (w6.setCell ⟨g,1,none⟩ (.int .i64 ((a1:Int)+2))) g A n c ((a1+2:Nat):Int) 0 A' m d:=by rw[show((a1+2:Nat):Int)=(a1:Int)+2 from V];exact lm
     have Qy:=JQ.setAt (ND) 1 (.int .i64 ((a1:Int)+2));have ct:=bk.tw ((Below.refl g w6).setAt 1 (.int .i64 ((a1:Int)+2))) r;have zl:=Dx.setAt 1 (.int .i64 ((a1:Int)+2));have di:base<=(w6.setCell ⟨g,1,none⟩ (.int .i64 ((a1:Int)+2))).heap.size:=by simpa using QA
     clear r0 r1 r2 r3 k1 k2 k3 KC Rx JQ LH bk Dx GZ QA W5 cx;generalize w6.setCell ⟨g,1,none⟩ (.int .i64 ((a1:Int)+2))=w7 at*;refine(IU g A A' n c m d B (a1+2) 0 xs w7 br V ct r X V).mono ?_;rintro e' M ⟨rfl,cz,a6⟩;rw[<-bx.out]at*;rw[<-bv.out]at cz;have JQ:=Qy.off a6 (ND);have Dx:=zl.trans (a6.mono V);have QA:base<=M.heap.size:=by have:=a6.size;omega
     clear a6 br Qy ct zl di bx bv;have KC:=rq cz;go_wp2_with fail;refine(Ut.TR N1 O V V V V M).mono ?_;rintro e' e9 ⟨rfl,rfl⟩;have dM:=Ut.Yu N1 O;generalize Ut.uP N1 O=a3 at*;by_cases aa:a3=0
     ·rw[rv aa]at a0;obtain rfl:=a0.out;subst aa;obtain⟨⟨r0,r1,r2,r3⟩,k1,k2,k3⟩:=KC.out;have Ik:base<=M.heap.size:=QA;have yr:=FZ A' m d base (-1) ts V V M JQ Ik hm;go_wp2_with fail;cases OU:Ut.yv (-1);·exact oI
      ·exact lf
     ·rw[ru aa]at a0;obtain rfl:=a0.out;have dr:(a3==0)=false:=by simp[aa]
      obtain⟨⟨r0,r1,r2,r3⟩,k1,k2,k3⟩:=KC.out;have Ik:base<=M.heap.size:=QA;have yr:=FZ A' m d base a3 ts V V M JQ Ik hm;go_wp2_with fail;cases OU:Ut.yv a3;·exact oI
      ·exact lf
   ·rw[ru (fun h=>hsu ⟨h.1,h.2.1⟩)]at j;injection j with e1 e2;subst e1 e2;have df:(¬55296<=N1)\/(55296<=N1/\¬N1<56320):=V;rcases df with h|⟨h,H⟩
    ·have c4:decide (55296<=N1)=false:=by simp;omega
     exact oK
    ·have c4:decide (55296<=N1)=true:=iE;have d6:decide (N1<56320)=false:=by simp;omega
     exact oK
  ·rw[rv hu]at o;rw[o];simp only[sw];have e6:(((pk xs a).toNat:Int) !=117)=true:=bne_iff_ne.2 (fun e=>hu (tC.1 (show(pk xs a).toNat=117 from V)));go_enter Tryz.func226,Tryz.ntmps226;go_wp2_with fail;refine(ur g A A' n c m d B a 0 xs w t I F r X b2).mono ?_;rintro e' w1 ⟨rfl,De⟩;have G:=t.below De I;have D:=Y.below De;have a8:=F.tw De V;have a9:base<=w1.heap.size:=gP;have v:rS g base w w1:=rS.of (De.mono V);clear De;clear hu o;generalize d8:(((pk xs a).toNat:Nat):Int)=d5 at*;clear d8;go_wp2_with fail;refine(q w1).mono ?_;rintro e' ab ⟨rfl,rfl⟩;go_wp2_with fail;refine su [0,1,2,3,4,5,6,7,8,9,10,11,12,13] [] bg bg bi bg (fun _ _ d _ _ h=>bw) (fun wd hd sW=> ?_);have FK:=rq (wP.below G hd V);have E:=D.below (hd.mono rT);have b9:=a8.tw hd V;have C:=v.trans (rS.of (hd.mono V));have L:base<=wd.heap.size:=V;clear hd sW;refine ae ?_;refine sn ?_;go_wp2_with fail;refine(uy g A A' n c m d (a:Int) 0 20 wd FK.out V).mono ?_;rintro e' w5 ⟨rfl,cy,Fg⟩;rw[rv rfl]at cy;go_wp2_with fail;refine rV (tA rfl _ _ _) rfl ?_;exact⟨rfl,A',m,d,cy,E.off Fg (ND),C.trans (Fg.mono V)⟩
 ·have d7:a<n:=by
   rcases sX a n with H|H;·exact H
   ·exact absurd l7 c9
  obtain⟨b,b6⟩:∃b,tF[i]? =some b:=⟨tF[i]' gC,ry gC⟩;have o:wD xs a=(a+1,[b],0):=by unfold wD;rw[R,b6]
  rw[o];simp only;have b5:=Ju tF i (by simp[tF,ByteArray.size];omega);have ci:tF[i]' gC=b:=by have:=rK.1 b6;exact this.2
  rw[ci]at b5;have q:∀w,Calls Tryz.prog 152 #[.string ⟨#[34,92,47,98,102,110,114,116]⟩,.int .u8 ((pk xs a).toNat:Int)] w fun e w'=>e=.returned (.int .i64 (i:Int))/\w'=w:=fun w=>by have h:=S w;rw[ad]at h;exact h
  have ch:(⟨#[34,92,47,8,12,10,13,9]⟩:ByteArray)[i]'(by simp[ByteArray.size];omega)=b:=b5;have dp:decide ((a:Int)<n)=true:=by simp;omega
  have ac:decide (a<n)=true:=by simp;omega
  have e3:∀w,(Instr.index 9 (.string ⟨#[34,92,47,8,12,10,13,9]⟩) (.int .i64 (i:Int))).run Tryz.prog w=.ok (.int .u8 (b.toNat:Int)) w:=fun w=>
   by
    have:=ch;rcases(show i=0\/i=1\/i=2\/i=3\/i=4\/i=5\/i=6\/i=7 from V)with rfl|rfl|rfl|rfl|rfl|rfl|rfl|rfl
    ·obtain rfl:b=34:=by rw[<-this];rfl
     have key:∀w,(Instr.index 9 (.string ⟨#[34,92,47,8,12,10,13,9]⟩) (.int .i64 0)).run Tryz.prog w=.ok (.int .u8 34) w:=fun _=>bg
     exact key w
    ·obtain rfl:b=92:=by rw[<-this];rfl
     have key:∀w,(Instr.index 9 (.string ⟨#[34,92,47,8,12,10,13,9]⟩) (.int .i64 1)).run Tryz.prog w=.ok (.int .u8 92) w:=fun _=>bg
     exact key w
    ·obtain rfl:b=47:=by rw[<-this];rfl
     have key:∀w,(Instr.index 9 (.string ⟨#[34,92,47,8,12,10,13,9]⟩) (.int .i64 2)).run Tryz.prog w=.ok (.int .u8 47) w:=fun _=>bg
     exact key w
    ·obtain rfl:b=8:=by rw[<-this];rfl
     have key:∀w,(Instr.index 9 (.string ⟨#[34,92,47,8,12,10,13,9]⟩) (.int .i64 3)).run Tryz.prog w=.ok (.int .u8 8) w:=fun _=>bg
     exact key w
    ·obtain rfl:b=12:=by rw[<-this];rfl
     have key:∀w,(Instr.index 9 (.string ⟨#[34,92,47,8,12,10,13,9]⟩) (.int .i64 4)).run Tryz.prog w=.ok (.int .u8 12) w:=fun _=>bg
     exact key w
    ·obtain rfl:b=10:=by rw[<-this];rfl
     have key:∀w,(Instr.index 9 (.string ⟨#[34,92,47,8,12,10,13,9]⟩) (.int .i64 5)).run Tryz.prog w=.ok (.int .u8 10) w:=fun _=>bg
     exact key w
    ·obtain rfl:b=13:=by rw[<-this];rfl
     have key:∀w,(Instr.index 9 (.string ⟨#[34,92,47,8,12,10,13,9]⟩) (.int .i64 6)).run Tryz.prog w=.ok (.int .u8 13) w:=fun _=>bg
     exact key w
    ·obtain rfl:b=9:=by rw[<-this];rfl
     have key:∀w,(Instr.index 9 (.string ⟨#[34,92,47,8,12,10,13,9]⟩) (.int .i64 7)).run Tryz.prog w=.ok (.int .u8 9) w:=fun _=>bg
     exact key w
  clear S b7 ad R c9 o b6 b5 ci ch;go_enter Tryz.func226,Tryz.ntmps226;go_wp2_with fail;refine(ur g A A' n c m d B a 0 xs w t I F r X b2).mono ?_;rintro e' w1 ⟨rfl,De⟩;go_wp2_with fail;refine(q w1).mono ?_;rintro e' ab ⟨rfl,rfl⟩;have G:=t.below De I;have D:=Y.below De;have a9:base<=ab.heap.size:=gP;have v:rS g base w ab:=rS.of (De.mono V);clear t Y q De;generalize pk xs a=d5 at*;go_wp2_with fail;refine su [0,1,2,3,4,5,6,7,8,9,10,11,12,13] [] bg bg bi bg (fun _ _ d _ _ h=>bw) (fun wd hd sW=> ?_);have FK:=rq (wP.below G hd V);have E:=D.below (hd.mono rT);have C:=v.trans (rS.of (hd.mono V));have L:base<=wd.heap.size:=V;clear hd sW G D v a9;refine ae ?_;refine sn ?_;obtain⟨⟨r0,r1,r2,r3⟩,k1,k2,k3⟩:=FK.out;go_wp2_with fail;have N:wP (wd.setCell ⟨g,1,none⟩ (.int .i64 ((a:Int)+1))) g A n c ((a+1:Nat):Int) 0 A' m d:=oV;have Z:=E.setAt (ND) 1 (.int .i64 ((a:Int)+1));have U:=C.setAt 1 (.int .i64 ((a:Int)+1));have bn:base<=(wd.setCell ⟨g,1,none⟩ (.int .i64 ((a:Int)+1))).heap.size:=by simpa using L
  clear r0 r1 r2 r3 k1 k2 k3 FK E C L;generalize wd.setCell ⟨g,1,none⟩ (.int .i64 ((a:Int)+1))=d1 at*;refine td (K:=Below) Below.keeps (sk.of [0,1,2,3,5,6] (.fork 4 (sk.of [7,8,9,10,11] .nil) 7 (sk.of [4,8,9,10,11] .nil))) [4,7,8,11] bg bg bC bg (fun _ _ d _ _ h=>bw) (fun we a5 d9=> ?_);have d3:=N.below a5 V;have D1:=Z.below a5;have FB:=U.trans (rS.of (a5.mono V));have ZI:base<=we.heap.size:=V;have dN:g<we.heap.size:=V;clear a5 d9 N Z U bn;refine ai ?_;obtain⟨⟨r0,r1,r2,r3⟩,k1,k2,k3⟩:=d3;refine zB rfl rfl 0 rT (fun Q1 sP=> ?_) (fun Q1 sP=> ?_);·go_wp2_with fail;refine sP _ _ vK ?_;clear sP;refine rZ rfl rfl 0 rT (fun Q1 sP=> ?_);go_wp2_with fail;refine sP _ _ (vK.alloc (rO _) _) ?_;exact lC
  ·go_wp2_with fail;refine sP _ _ (vK.alloc (rO _) _) ?_;clear sP;refine rZ rfl rfl 0 rT (fun Q1 sP=> ?_);go_wp2_with fail;refine sP _ _ vK ?_;exact lC
def JL{xs:acM}:∀(k a v:Nat),a<=(vg xs k a v).2
 |0,a,v=>rN _
 |k+1,a,v=>
 by
  unfold vg;split;·have:=JL (xs:=xs) k (a+1);rename_i b _;have:=this (v*16+b);omega
  ·exact iW
def Ef(c:Nat):1<=(Ut.tW c).length/\(Ut.tW c).length<=4:=by
 unfold Ut.tW;split;·simp
 ·split;·simp
  ·split<;>simp
def OQ{xs:acM}{a:Nat}(k:a<=xs.length):(wD xs a).1<=xs.length/\a<=(wD xs a).1/\(wD xs a).2.1.length<=4/\((wD xs a).2.2=0->a<(wD xs a).1)/\((wD xs a).2.2=0\/(wD xs a).2.2=20):=by
 unfold wD;rcases Nq (pk xs a)with⟨g,d⟩|⟨i,g,hi8,d,j⟩
 ·rw[d];simp only;by_cases hu:pk xs a=117
  ·rw[ru (by simp[hu])];have l:a<xs.length:=by
    rcases sX a xs.length with h'|h';·exact h'
    ·exact pt
   have e:(CA xs a).2<=xs.length/\a+1<=(CA xs a).2:=by
    have p:=BM (xs:=xs) 4 (a+1) 0 V;have q:=JL (xs:=xs) 4 (a+1) 0;unfold CA;split
    ·rename_i n;have o:(vg xs 4 (a+1) 0).2+1<xs.length:=by
      rcases sX ((vg xs 4 (a+1) 0).2+1) xs.length with h'|h';·exact h'
      ·exact absurd (show(0:UInt8)=117 by rw[<-n.2.2.2];exact kT) bD
     have r:=BM (xs:=xs) 4 ((vg xs 4 (a+1) 0).2+2) 0 V;have t:=JL (xs:=xs) 4 ((vg xs 4 (a+1) 0).2+2) 0;exact bd
    ·omega
   split;·exact⟨e.1,bd,(Ef _).2,fun _=>bd,.inl rfl⟩
   ·exact⟨e.1,bd,bi,(fun h=>bX),.inr rfl⟩
  ·rw[rv hu];exact⟨k,rN _,bi,(fun h=>bX),.inr rfl⟩
 ·have l:a<xs.length:=by
   rcases sX a xs.length with h'|h';·exact h'
   ·exact absurd l7 j
  obtain⟨b,m⟩:∃b,tF[i]? =some b:=⟨tF[i]' gC,ry gC⟩;rw[d,m];exact⟨bd,bd,bi,fun _=>bd,.inl rfl⟩
def Dg(xs:acM):Nat->Nat->acM->acM×Nat×Int
 |0,a,_=>([],a,20)
 |f+1,a,ts=>if(pk xs a).toNat<32 then([],a,20)else if pk xs a=34 then(ts,a+1,0)else if pk xs a=92 then(if(wD xs (a+1)).2.2=0 then Dg xs f (wD xs (a+1)).1 (ts++(wD xs (a+1)).2.1)else([],(wD xs (a+1)).1,(wD xs (a+1)).2.2))else if(Ut.vM (xs.drop a)).2.2=0 then Dg xs f (a+(Ut.vM (xs.drop a)).2.1) (ts++(xs.drop a).take (Ut.vM (xs.drop a)).2.1)else([],a+(Ut.vM (xs.drop a)).2.1,20)
section
variable{P:Program}{ops:Array Oper}{Q:Exit->Act->World->Prop}{mk:List Nat}{K:Nat->World->World->Prop}{i:Nat}{σ:sk}{T:Nat}{a:Act}{w:World}{dst:Option Tmp}{x y z:Operand}{ty:TypeId}{pos:String}{af:Array Edge}{gd:Option (Nat×Bool)}
def SX(j:mk.contains i=false)(g:ops[i]? =some ⟨dst,.slice 22 x (some y) (some z) none,ty,pos,af,gd⟩)(o:Region.wanted ⟨dst,.slice 22 x (some y) (some z) none,ty,pos,af,gd⟩ (yielded ops a.tmps)=true){n c B p q:Nat}{k e:IntKind}{A:acN}{xs:acM}(r:a.eval x=.slice A n c)(t:a.eval y=.int k (p:Int))(C:a.eval z=.int e (q:Int))(m:Rd w B A n xs)(d:p<=q)(l:q<=n)(D:n<=c)(h:∀b,Rd w B b (q-p) ((xs.take q).drop p)->wy Tryz.prog ops Q mk K σ T (a.put dst (.slice b (q-p) (c-p))) w):wy Tryz.prog ops Q mk K (.cons i σ) T a w:=by refine ua j g o (v:=.slice (if c=p then A else A.map (·.add p)) (q-p) (c-p)) (fun w'=> ?_) (h _ ((m.upto l).cut d V));unfold execOp;simp only[uL,vm,tK,r,t,C,uj,Option.map_none,Re A n c p q d (show q<=c from V) k e]
end
def Wk{xs:acM}{f a:Nat}{ts:acM}(h:(pk xs a).toNat<32):Dg xs (f+1) a ts=([],a,20):=by rw[Dg,rv h]
def N5{xs:acM}{f a:Nat}{ts:acM}(h:pk xs a=34):Dg xs (f+1) a ts=(ts,a+1,0):=by rw[Dg,ru (by rw[h];decide),rv h]
def N6{xs:acM}{f a:Nat}{ts:acM}(h:pk xs a=92):Dg xs (f+1) a ts=(if(wD xs (a+1)).2.2=0 then Dg xs f (wD xs (a+1)).1 (ts++(wD xs (a+1)).2.1)else([],(wD xs (a+1)).1,(wD xs (a+1)).2.2)):=by rw[Dg,ru (by rw[h];decide),ru (by rw[h];decide),rv h]
def Kf{xs:acM}{f a:Nat}{ts:acM}(b:¬(pk xs a).toNat<32)(d:¬pk xs a=34)(e:¬pk xs a=92):Dg xs (f+1) a ts=(if(Ut.vM (xs.drop a)).2.2=0 then Dg xs f (a+(Ut.vM (xs.drop a)).2.1) (ts++(xs.drop a).take (Ut.vM (xs.drop a)).2.1)else([],a+(Ut.vM (xs.drop a)).2.1,20)):=by rw[Dg,ru b,ru d,ru e]
def N8(g:Nat)(A A':acN)(n c m d B a:Nat)(xs:acM)(w:World)(dB:wP w g A n c a 0 A' m d)(f2:g<w.heap.size)(dp:Rd w B A n xs)(a9:B<=g)(f4:n<=100000000)(cs:n<=c)(e9:a<=n)(o:Nat)(a1:g<o)(ea:o<=w.heap.size)(dj:Own w o A' m d []):Calls Tryz.prog 191 #[.pointer (some ⟨g,0,none⟩)] w fun e' w'=>e'=.returned (.string ⟨(Dg xs (n+1-a) a []).1.toArray⟩)/\∃dN ei e7,wP w' g A n c (Dg xs (n+1-a) a []).2.1 (Dg xs (n+1-a) a []).2.2 dN ei e7/\rS g o w w':=by
 have f3:=dp.len;obtain⟨R,ch⟩:∃R,R=Dg xs (n+1-a) a []:=⟨_,rfl⟩;rw[<-ch];have e3:=rq ch;have e4:=rq dB;have e2:=rq dj;clear ch dB dj;go_enter Tryz.func191,Tryz.ntmps191;go_wp2_with fail;go_loopw [3,4,5,6] (fun _ _ _ _ wr=>∃(b e j N:Nat)(I:acN)(ts:acM),b<=n/\ts.length<=4*b/\wP wr g A n c b e I j N/\Own wr o I j N ts/\((e=0/\∃f,n+1-b<=f/\R=Dg xs f b ts)\/(e≠0/\R=([],b,(e:Int))))/\rS g o w wr/\o<=wr.heap.size) (fun _ _ _ _ wr=>2*(n-Sq wr g)+(match wr.cell? ⟨g,2,none⟩with|some (.int _ 0)=>1|_=>0));case atStart=>exact⟨a,0,m,d,A',[],e9,bi,e4.out,e2.out,.inl ⟨rfl,_,rN _,e3.out⟩,rS.refl _ _ _,ea⟩
 case
  round=>
   obtain⟨b,e,j,N,I,ts,hb,ds,b1,a7,eb,Y,f5⟩:=hrel;have ab:=dp.off Y V a9;have eg:=a7.len;have ci:=yl b1;rcases eb with⟨rfl,dd,f1,l⟩|⟨U,l⟩
   ·obtain⟨f,rfl⟩:∃f,dd=f+1:=⟨dd-1,V⟩;have di:(match wr.cell? ⟨g,2,none⟩with|some (.int _ 0)=>1|_=>0)=1:=by rw[b1.1.2.2.1];rfl
    have O:=b1;have bx:=rq ci;have bz:=rq di;have c3:=(pk xs b).toNat_lt;obtain⟨⟨C,D,E,F⟩,r,t,v⟩:=b1;clear ci di;by_cases c1:(pk xs b).toNat<32
    ·rw[Wk c1]at l;have a5:=rq l;have e6:((pk xs b).toNat:Int)<32:=V;clear l c1;go_wp2_with fail;refine(ur g A I n c j N B b 0 xs wr O V ab a9 V hb).mono ?_;rintro e' S ⟨rfl,vX⟩;have a8:=O.below vX V;have a2:=a7.below vX;have aa:=ab.tw vX V;have ar:o<=S.heap.size:=dm;have Z:=Y.trans (rS.of (vX.mono V));clear vX C D E F r t v O a7 Y;go_wp2_with fail;refine(uy g A I n c j N (b:Int) 0 20 S a8 V).mono ?_;rintro e' c5 ⟨rfl,c4,bO⟩;rw[rv rfl]at c4;have a4:=a2.off bO (a1);have a0:=Z.trans (bO.mono V);have aU:o<=c5.heap.size:=by have:=bO.size;omega
     clear a8 a2 Z bO;go_wp2_with fail;go_roundw;case rel=>exact⟨b,20,j,N,I,ts,hb,ds,c4,a4,.inr ⟨V,a5.out⟩,a0,aU⟩
     case measure=>rw[yl c4,bx.out,bz.out,c4.1.2.2.1];simp
    ·by_cases c2:pk xs b=34;·rw[N5 c2]at l;have a5:=rq l;clear l c1;go_wp2_with fail;refine(ur g A I n c j N B b 0 xs wr O V ab a9 V hb).mono ?_;rintro e' S ⟨rfl,vX⟩;have a8:=O.below vX V;have a2:=a7.below vX;have aa:=ab.tw vX V;have ar:o<=S.heap.size:=dm;have Z:=Y.trans (rS.of (vX.mono V));clear vX C D E F r t v O a7 Y;rw[c2];obtain⟨⟨C,D,E,F⟩,r,t,v⟩:=a8;have es:=rq ds;clear c2 c3;go_upto_region 12 with fail;have W:wP (S.setCell ⟨g,1,none⟩ (.int .i64 ((b:Int)+1))) g A n c ((b+1:Nat):Int) 0 I j N:=pq;have a4:=(a2.setAt (a1) 1 (.int .i64 ((b:Int)+1))).rd;have a0:=Z.setAt 1 (.int .i64 ((b:Int)+1));clear C D E F r t v a2 Z aa ar;generalize S.setCell ⟨g,1,none⟩ (.int .i64 ((b:Int)+1))=c5 at*;have d6:=W;obtain⟨⟨C,D,E,F⟩,r,t,v⟩:=W;obtain rfl:=a5.out;go_wp2_with(with_reducible refine Dd rfl rfl a4 ?_);go_ret;first|exact⟨rfl,I,j,N,d6,a0⟩|exact⟨rfl,⟨I,j,N,d6⟩,a0⟩
     ·by_cases ak:pk xs b=92
      ·rw[N6 ak]at l;have a5:=rq l;have et:b<n:=by
        rcases sX b n with h|h;·exact h
        ·exact absurd (show(0:UInt8)=92 by rw[<-ak];exact l7) bD
       have ef:=OQ (xs:=xs) (a:=b+1) V;clear l c1 c2;go_wp2_with fail;refine(ur g A I n c j N B b 0 xs wr O V ab a9 V hb).mono ?_;rintro e' S ⟨rfl,vX⟩;have a8:=O.below vX V;have a2:=a7.below vX;have aa:=ab.tw vX V;have ar:o<=S.heap.size:=dm;have Z:=Y.trans (rS.of (vX.mono V));clear vX C D E F r t v O a7 Y;rw[ak];obtain⟨⟨C,D,E,F⟩,r,t,v⟩:=a8;clear ak c3;go_upto_region 15 with fail;have W:wP (S.setCell ⟨g,1,none⟩ (.int .i64 ((b:Int)+1))) g A n c ((b+1:Nat):Int) 0 I j N:=pq;have a4:=a2.setAt (a1) 1 (.int .i64 ((b:Int)+1));have an:=aa.tw ((Below.refl g S).setAt 1 (.int .i64 ((b:Int)+1))) a9;have a0:=Z.setAt 1 (.int .i64 ((b:Int)+1));have aU:o<=(S.setCell ⟨g,1,none⟩ (.int .i64 ((b:Int)+1))).heap.size:=by simpa using ar
       clear C D E F r t v a2 Z aa ar;generalize S.setCell ⟨g,1,none⟩ (.int .i64 ((b:Int)+1))=c5 at*;go_wp2_with fail;refine(Nr g A I n c j N B (b+1) xs ts c5 W V an a9 V cs V o a1 aU a4 V).mono ?_;rintro e' c6 ⟨rfl,d4,dI,d9,ac,dk,cj⟩;obtain⟨f7,f8,f9,d2,dK⟩:=ef;have df:=a0.trans cj;have dr:o<=c6.heap.size:=by have:=cj.size;omega
       clear cj W a4 an a0 aU;generalize wD xs (b+1)=e1 at*;obtain⟨d7,d8,er⟩:=e1;simp only at*;go_wp2_with fail;go_roundw;case
        rel=>
         rcases dK with h|h;·subst h;have l:=a5.out;rw[rv rfl]at l;refine⟨d7,0,dI,d9,d4,ts++d8,V,by rw[rC];have:=d2 rfl;omega,ac,dk,.inl ⟨rfl,f,by have:=d2 rfl;omega,l⟩,df,dr⟩
         ·subst h;have l:=a5.out;rw[ru V]at l;exact⟨d7,20,dI,d9,d4,ts++d8,V,ez,ac,dk,.inr ⟨V,l⟩,df,dr⟩
       case
        measure=>
         rw[bz.out,bx.out,yl ac,ac.1.2.2.1];rcases dK with h|h;·have:=d2 h;subst h;simp;omega
         ·subst h;simp;omega
      ·rw[Kf c1 c2 ak]at l;have a5:=rq l;have e6:¬((pk xs b).toNat:Int)<32:=V;have ek:(((pk xs b).toNat:Int)==34)=false:=rr.2 (fun e=>c2 (tC.1 (show(pk xs b).toNat=34 from V)));have el:(((pk xs b).toNat:Int)==92)=false:=rr.2 (fun e=>ak (tC.1 (show(pk xs b).toNat=92 from V)));have d0:=fun w1(h:Rd w1 B A n xs)=>Ut.Mq A n c B (b:Int) xs w1 h V V V
       rw[Ut.Ur V,Ut.Ol V,Ut.Uq V]at d0;clear l c1 c2 ak;go_wp2_with fail;refine(ur g A I n c j N B b 0 xs wr O V ab a9 V hb).mono ?_;rintro e' S ⟨rfl,vX⟩;have a8:=O.below vX V;have a2:=a7.below vX;have aa:=ab.tw vX V;have ar:o<=S.heap.size:=dm;have Z:=Y.trans (rS.of (vX.mono V));clear vX C D E F r t v O a7 Y;generalize(((pk xs b).toNat:Nat):Int)=em at*;have d5:=rq a8;clear a8;go_wp2_with fail;refine su [0,1,2,3,4,5,6,7,8,9,10,11,12,13,14,15] [8] bg bg bi bg (fun _ _ d _ _ h=>bw) (fun wd b8 sW=> ?_);have W:=rq (d5.out.below b8 V);have a4:=a2.below (b8.mono rT);have an:=aa.tw b8 V;have a0:=Z.trans (rS.of (b8.mono V));have aU:o<=wd.heap.size:=V;clear b8 sW d5 a2 aa Z ar;repeat((first|(refine sJ rfl rfl rfl bh ?_)|(refine sN rfl rfl rfl ?_)|(refine sM rfl rfl rfl (g+1) V _ (by intro w' hb;obtain⟨⟨z0,z1,ff,fi⟩,_,_,_⟩:=wP.below W.out hb V;clear hb;go_simp;first|done|with_reducible rfl) ?_));simp only[Act.put,rB,rz,rA])
       refine sB rfl rfl (g+1) rT (fun b0 H=> ?_);go_wp2_with fail;refine(d0 wd an).mono ?_;rintro e' c6 ⟨rfl,rfl⟩;go_wp2_with fail;refine H _ _ vK ?_;clear H d0;refine ag ?_;refine sn ?_;obtain⟨en,cb,cc⟩:(Ut.vM (xs.drop b)).2.1<=n-b/\((Ut.vM (xs.drop b)).2.2=0->1<=(Ut.vM (xs.drop b)).2.1)/\((Ut.vM (xs.drop b)).2.2≠0->(Ut.vM (xs.drop b)).2.1=0):=by
        by_cases h:(Ut.vM (xs.drop b)).2.2=0;·have:=Ut.C9 h;rw[sx]at this;exact⟨V,fun _=>this.1,fun e8=>absurd h e8⟩
        ·rcases Ut.WA h with e|e<;>rw[e]<;>simp
       generalize Ut.vM (xs.drop b)=e5 at*;obtain⟨fb,G,dM⟩:=e5;simp only at*;by_cases d1:dM=0
       ·subst d1;have dz:=cb rfl;have l:=a5.out;rw[rv rfl]at l;have c9:=rq l;obtain⟨⟨C,D,E,F⟩,r,t,v⟩:=W.out;have b2:=W;have be:=a4;have bk:=an;have b5:=a0;have cz:=aU;clear l cb cc;go_wp2_with fail;refine td (K:=uK (fun p=>p=⟨g,3,none⟩)) (uK.keeps _) (sk.of [0,1,2,3,5,6,7,8,9,10,11,12,13,14,4,15,16,17,18] .nil) [4,15,18] bg bg bC bg (fun _ _ d _ _ h=>bw) (fun d3 U cr=> ?_);have RN:=rq (b2.out.below U V);have bj:=be.below (U.mono rT);have bn:=bk.tw U V;have b6:=b5.trans (rS.of (U.mono V));have br:o<=d3.heap.size:=V;clear U cr b2 be bk b5 cz C D E F r t v;iterate 13 ((first|(refine ua rfl rfl rfl bh ?_)|(refine uk rfl rfl rfl (g+1) V _ mF ?_));simp only[Act.put,rB,rz,rA])
        refine SX (p:=b) (q:=b+G) rfl rfl rfl rfl rfl rfl bn V V cs (fun e0 bp=> ?_);simp only[Act.put,rB,rz,rA];obtain⟨⟨C,D,E,F⟩,r,t,v⟩:=RN.out;refine rZ rfl rfl (g+1) rT (fun b0 H=> ?_);go_wp2_with fail;refine H _ _ (uK.refl _ _ _) ?_;clear H;refine rZ rfl rfl (g+1) rT (fun b0 H=> ?_);go_wp2_with(at_builtin;refine yF rfl rfl bj rfl bp V br ?_;intro L M a3 a6 X);refine H _ _ (uK.of (X.mono V)) ?_;clear H;have b3:j+(b+G-b)=j+G:=V;rw[b3]at a6|-;have b4:(xs.take (b+G)).drop b=(xs.drop b).take G:=by rw[List.drop_take];congr 1;omega
        rw[b4]at a6;have c7:=RN.out.below X (a1);have b7:=b6.trans (rS.of X);have bs:o<=a3.heap.size:=by have:=X.size;omega
        clear C D E F r t v RN bj bn bp X b3 b4 b6 br;refine ai ?_;obtain⟨⟨C,D,E,F⟩,r,t,v⟩:=c7;refine rZ rfl rfl (g+1) rT (fun b0 H=> ?_);go_wp2_with fail;refine H _ _ (uK.setCell a3 _ rfl) ?_;clear H;have c8:wP (a3.setCell ⟨g,3,none⟩ (.slice L (j+G) M)) g A n c b 0 L (j+G) M:=⟨⟨bf,bf,bf,bf⟩,bf,bf,bf⟩;have cx:=a6.setAt (a1) 3 (.slice L (j+G) M);have cp:=b7.setAt 3 (.slice L (j+G) M);have cS:o<=(a3.setCell ⟨g,3,none⟩ (.slice L (j+G) M)).heap.size:=by simpa using bs
        clear C D E F r t v a6 b7 bs;generalize a3.setCell ⟨g,3,none⟩ (.slice L (j+G) M)=bv at*;refine sI ?_;obtain⟨⟨C,D,E,F⟩,r,t,v⟩:=c8;go_wp2_with fail;have cf:((b+G:Nat):Int)=(b:Int)+G:=V;have ad:wP (bv.setCell ⟨g,1,none⟩ (.int .i64 ((b:Int)+G))) g A n c ((b+G:Nat):Int) 0 L (j+G) M:=by rw[cf];exact lm
        have ct:=cx.setAt (a1) 1 (.int .i64 ((b:Int)+G));have cl:=cp.setAt 1 (.int .i64 ((b:Int)+G));have cy:o<=(bv.setCell ⟨g,1,none⟩ (.int .i64 ((b:Int)+G))).heap.size:=by simpa using cS
        have c3:((xs.drop b).take G).length<=G:=by rw[xx];omega
        refine⟨⟨b+G,0,j+G,M,L,ts++(xs.drop b).take G,V,ez,ad,ct,.inl ⟨rfl,f,V,c9.out⟩,cl,cy⟩,?_⟩;rw[bz.out,bx.out,yl ad,ad.1.2.2.1];simp;omega
       ·have dz:=cc d1;subst dz;have l:=a5.out;rw[ru d1]at l;have c9:=rq l;have f6:(((dM:Nat):Int) !=0)=true:=by simp;omega
        clear l cb cc;go_wp2_with fail;refine(uy g A I n c j N (b:Int) 0 20 wd W.out V).mono ?_;rintro e' c6 ⟨rfl,ac,b9⟩;rw[rv rfl]at ac;have be:=a4.off b9 (a1);have bk:=an.off b9 V a9;have b5:=a0.trans (b9.mono V);have cz:o<=c6.heap.size:=by have:=b9.size;omega
        have b2:=rq ac;obtain⟨⟨C,D,E,F⟩,r,t,v⟩:=ac;clear W a4 an a0 aU b9;go_wp2_with fail;refine td (K:=uK (fun p=>p=⟨g,3,none⟩)) (uK.keeps _) (sk.of [0,1,2,3,5,6,7,8,9,10,11,12,13,14,4,15,16,17,18] .nil) [4,15,18] bg bg bC bg (fun _ _ d _ _ h=>bw) (fun d3 U cr=> ?_);have RN:=rq (b2.out.below U V);have bj:=be.below (U.mono rT);have bn:=bk.tw U V;have b6:=b5.trans (rS.of (U.mono V));have br:o<=d3.heap.size:=V;clear U cr b2 be bk b5 cz C D E F r t v;iterate 13 ((first|(refine ua rfl rfl rfl bh ?_)|(refine uk rfl rfl rfl (g+1) V _ mF ?_));simp only[Act.put,rB,rz,rA])
        refine SX (p:=b) (q:=b) rfl rfl rfl rfl rfl rfl bn V V cs (fun e0 bp=> ?_);simp only[Act.put,rB,rz,rA];obtain⟨⟨C,D,E,F⟩,r,t,v⟩:=RN.out;refine rZ rfl rfl (g+1) rT (fun b0 H=> ?_);go_wp2_with fail;refine H _ _ (uK.refl _ _ _) ?_;clear H;refine rZ rfl rfl (g+1) rT (fun b0 H=> ?_);go_wp2_with(at_builtin;refine yF rfl rfl bj rfl bp V br ?_;intro L M a3 a6 X);refine H _ _ (uK.of (X.mono V)) ?_;clear H;have b3:j+(b-b)=j:=V;rw[b3]at a6|-;have b4:(xs.take (b)).drop b=(xs.drop b).take 0:=by rw[List.drop_take];(try(congr 1;omega))
        rw[b4]at a6;have c7:=RN.out.below X (a1);have b7:=b6.trans (rS.of X);have bs:o<=a3.heap.size:=by have:=X.size;omega
        clear C D E F r t v RN bj bn bp X b3 b4 b6 br;refine ai ?_;obtain⟨⟨C,D,E,F⟩,r,t,v⟩:=c7;refine rZ rfl rfl (g+1) rT (fun b0 H=> ?_);go_wp2_with fail;refine H _ _ (uK.setCell a3 _ rfl) ?_;clear H;have c8:wP (a3.setCell ⟨g,3,none⟩ (.slice L (j) M)) g A n c b 20 L (j) M:=⟨⟨bf,bf,bf,bf⟩,bf,bf,bf⟩;have cx:=a6.setAt (a1) 3 (.slice L (j) M);have cp:=b7.setAt 3 (.slice L (j) M);have cS:o<=(a3.setCell ⟨g,3,none⟩ (.slice L (j) M)).heap.size:=by simpa using bs
        clear C D E F r t v a6 b7 bs;generalize a3.setCell ⟨g,3,none⟩ (.slice L (j) M)=bv at*;refine sI ?_;obtain⟨⟨C,D,E,F⟩,r,t,v⟩:=c8;go_wp2_with fail;have cf:((b:Nat):Int)=(b:Int):=V;have ad:wP (bv.setCell ⟨g,1,none⟩ (.int .i64 ((b:Int)))) g A n c ((b:Nat):Int) 20 L (j) M:=by rw[cf];exact lm
        have ct:=cx.setAt (a1) 1 (.int .i64 ((b:Int)));have cl:=cp.setAt 1 (.int .i64 ((b:Int)));have cy:o<=(bv.setCell ⟨g,1,none⟩ (.int .i64 ((b:Int)))).heap.size:=by simpa using cS
        have c3:((xs.drop b).take 0).length<=0:=by rw[xx];omega
        refine⟨⟨b,20,j,M,L,ts++(xs.drop b).take 0,V,ez,ad,ct,.inr ⟨V,by have h:=c9.out;first|exact h|simpa using h⟩,cl,cy⟩,?_⟩;rw[bz.out,bx.out,yl ad,ad.1.2.2.1];simp<;>omega
   ·obtain rfl:=l;have f0:(((e:Nat):Int)==0)=false:=by simp;omega
    have O:=b1;obtain⟨⟨C,D,E,F⟩,r,t,v⟩:=b1;clear ci eg;go_wp2_with fail;go_ret;first|exact⟨rfl,I,j,N,O,Y⟩|exact⟨rfl,⟨I,j,N,O⟩,Y⟩
def zV{P:Program}{b:Func}{p:Tmp}{ty:TypeId}(h:b.results= #[.cell p ty])(d:Array Value)(w:World):(results b d).run P w=((asAddr (d.getD p undef)).run P w).andThen fun a e=>(loadVar ty a).run P e:=by simp only[results,h];simp[uL,Result.andThen]
def RM(k n:Int)(t:acM)(a b:Int):Value:=.agg #[.int .i64 k,.int .i64 n,.string ⟨t.toArray⟩,.int .i64 a,.int .i64 b]
def P2(w:World)(g:Nat)(k n:Int)(t:acM)(a b:Int):Prop:=w.cell? ⟨g,0,none⟩=some (.int .i64 k)/\w.cell? ⟨g,1,none⟩=some (.int .i64 n)/\w.cell? ⟨g,2,none⟩=some (.string ⟨t.toArray⟩)/\w.cell? ⟨g,3,none⟩=some (.int .i64 a)/\w.cell? ⟨g,4,none⟩=some (.int .i64 b)
def Pg(w:World)(g:Nat)(k n:Int)(t:acM)(a b:Int)(h:P2 w g k n t a b):(loadVar 117 ⟨g,0,none⟩).run Tryz.prog w=.ok (RM k n t a b) w:=by obtain⟨d,e,j,l,m⟩:=h;unfold RM;go_simp
def EO{d:Func}{p:Tmp}(h:d.results= #[.cell p 117]){e:Array Value}{w:World}{g:Nat}{k n:Int}{t:acM}{a b:Int}(j:e.getD p undef=.pointer (some ⟨g,0,none⟩))(l:P2 w g k n t a b):(results d e).run Tryz.prog w=.ok (RM k n t a b) w:=by rw[zV h,j];simp only[asAddr,vm,tK];exact Pg w g k n t a b l
def LS(w:World):Calls Tryz.prog 194 #[] w fun e w'=>e=.returned (.agg #[.string ⟨#[116,114,117,101]⟩,.int .i64 7,.int .i64 1,.string ⟨#[102,97,108,115,101]⟩,.int .i64 7,.int .i64 0,.string ⟨#[110,117,108,108]⟩,.int .i64 8,.int .i64 0])/\acP w w':=by
 go_enter Tryz.func194,Tryz.ntmps194;go_wp2;refine rV (v:=.agg #[.string ⟨#[116,114,117,101]⟩,.int .i64 7,.int .i64 1,.string ⟨#[102,97,108,115,101]⟩,.int .i64 7,.int .i64 0,.string ⟨#[110,117,108,108]⟩,.int .i64 8,.int .i64 0]) ?_ rfl ⟨rfl,?_⟩;·rw[zV rfl];go_simp
 ·exact vK.al rT _
def xl:acM:=[123,125,91,93,58,44]
def Rv(g:Nat)(A A':acN)(n c m d a i:Nat)(j:UInt8)(w:World)(r:wP w g A n c a 0 A' m d)(B:g<w.heap.size)(E:n<=100000000)(v:a<=n)(p:Lib.indexByte xl j=i)(C:i<6):Calls Tryz.prog 153 #[.pointer (some ⟨g,0,none⟩),.int .u8 (j.toNat:Int)] w fun e' w'=>e'=.returned (RM (1+i) 0 [] 0 0)/\wP w' g A n c ((a+1:Nat):Int) 0 A' m d/\Below g w w':=by
 have l:=fun w=>Tryz.strings_IndexByte ⟨xl.toArray⟩ (j.toNat:Int) w
 have o:(((j.toNat:Nat):Int)).toNat.toUInt8=j:=bi;simp only[o]at l;have q:∀w,Calls Tryz.prog 152 #[.string ⟨#[123,125,91,93,58,44]⟩,.int .u8 (j.toNat:Int)] w fun e w'=>e=.returned (.int .i64 (i:Int))/\w'=w:=fun w=>by have h:=l w;rw[<-p];exact h
 have D:=j.toNat_lt;clear l o p;obtain⟨⟨I,L,M,N⟩,F,G,H⟩:=r;go_enter Gq,Ex;go_wp2_with fail;go_step3;go_wp2_with fail;refine(q _).mono ?_;rintro e' O ⟨rfl,rfl⟩;clear q;go_wp2_with fail;rw[Cu];refine rV (EO (k:=1+i) (n:=0) (t:=[]) (a:=0) (b:=0) rfl rfl ⟨bf,bf,bf,bf,bf⟩) rfl ⟨rfl,?_,?_⟩;·exact oV
 ·exact dw
def Wt:∀c:UInt8,Lib.indexByte xl c= -1\/∃i:Nat,Lib.indexByte xl c=i/\i<6:=by
 have key:∀k:Fin 256,Lib.indexByte xl (UInt8.ofNat k.val)= -1\/(Lib.indexByte xl (UInt8.ofNat k.val)=((Lib.indexByte xl (UInt8.ofNat k.val)).toNat:Int)/\(Lib.indexByte xl (UInt8.ofNat k.val)).toNat<6):=bC;intro c;have h:=key ⟨c.toNat,c.toNat_lt⟩;simp only[w0]at h;rcases h with h|⟨b,d⟩;·exact .inl h
 ·exact .inr ⟨_,b,d⟩
def Ot(g:Nat)(A:acN)(n c B a:Nat)(xs:acM)(w:World)(M:wP w g A n c a 0 none 0 0)(b5:g<w.heap.size)(aa:Rd w B A n xs)(H:B<=g)(a8:n<=100000000)(a9:n<=c)(a7:a+1<=n):Calls Tryz.prog 153 #[.pointer (some ⟨g,0,none⟩),.int .u8 34] w fun e' w'=>e'=.returned (RM 10 0 (Dg xs (n+1-(a+1)) (a+1) []).1 0 0)/\(∃q D r,wP w' g A n c (Dg xs (n+1-(a+1)) (a+1) []).2.1 (Dg xs (n+1-(a+1)) (a+1) []).2.2 q D r)/\Below g w w':=by
 have I:∀w,Calls Tryz.prog 152 #[.string ⟨#[123,125,91,93,58,44]⟩,.int .u8 34] w fun e w'=>e=.returned (.int .i64 (-1))/\w'=w:=fun w=>Tryz.strings_IndexByte ⟨xl.toArray⟩ 34 w
 have C:=fun w1(a5:wP w1 g A n c ((a+1:Nat):Int) 0 none 0 0) G a6=>N8 g A none n c 0 0 B (a+1) xs w1 a5 G a6 H a8 a9 a7 w1.heap.size G rT (Own.nil _ _)
 generalize Dg xs (n+1-(a+1)) (a+1) []=R at*;obtain⟨T,an,ar⟩:=R;simp only at C|-;have F:=rq C;have a4:=M;obtain⟨⟨U,W,X,Y⟩,N,O,S⟩:=M;clear C;go_enter Gq,Ex;go_wp2_with fail;go_step3;go_wp2_with fail;refine(I _).mono ?_;rintro e' b8 ⟨rfl,rfl⟩;clear I;go_wp2_with fail;have E:wP ((w.setCell ⟨g,1,none⟩ (.int .i64 ((a:Int)+1))).alloc (wZ)) g A n c ((a+1:Nat):Int) 0 none 0 0:=oV;have v:Below g w ((w.setCell ⟨g,1,none⟩ (.int .i64 ((a:Int)+1))).alloc (wZ)):=dw;have ac:P2 ((w.setCell ⟨g,1,none⟩ (.int .i64 ((a:Int)+1))).alloc (wZ)) w.heap.size 0 0 [] 0 0:=⟨bf,bf,bf,bf,bf⟩;have o:∀j,((w.setCell ⟨g,1,none⟩ (.int .i64 ((a:Int)+1))).alloc (wZ)).frozen? ⟨w.heap.size,j,none⟩=false:=fun j=>bf
 have ab:g<((w.setCell ⟨g,1,none⟩ (.int .i64 ((a:Int)+1))).alloc (wZ)).heap.size:=by simp;omega
 have m:w.heap.size<((w.setCell ⟨g,1,none⟩ (.int .i64 ((a:Int)+1))).alloc (wZ)).heap.size:=bi;have L:=aa.tw v H;clear U W X Y N O S;generalize((w.setCell ⟨g,1,none⟩ (.int .i64 ((a:Int)+1))).alloc (wZ))=ak at*;refine(F.out ak E ab L).mono ?_;rintro e' b9 ⟨rfl,q,D,r,ad,d⟩;have b7:=d.size;have l:¬w.heap.size=g:=V;have b6:¬g=w.heap.size:=V;have b4:=v.trans (d.below (B':=g) V rT);obtain⟨Z,a0,a1,a2,a3⟩:=ac;have be:=(d.cell (p:=⟨w.heap.size,0,none⟩) m l).trans Z;have bj:=(d.cell (p:=⟨w.heap.size,1,none⟩) m l).trans a0;have bk:=(d.cell (p:=⟨w.heap.size,2,none⟩) m l).trans a1;have bn:=(d.cell (p:=⟨w.heap.size,3,none⟩) m l).trans a2;have bp:=(d.cell (p:=⟨w.heap.size,4,none⟩) m l).trans a3;have aU:=(d.frozen (p:=⟨w.heap.size,0,none⟩) m l).trans (o 0);have b0:=(d.frozen (p:=⟨w.heap.size,1,none⟩) m l).trans (o 1);have b1:=(d.frozen (p:=⟨w.heap.size,2,none⟩) m l).trans (o 2);have b2:=(d.frozen (p:=⟨w.heap.size,3,none⟩) m l).trans (o 3);have b3:=(d.frozen (p:=⟨w.heap.size,4,none⟩) m l).trans (o 4);obtain⟨⟨U,W,X,Y⟩,N,O,S⟩:=ad;clear Z a0 a1 a2 a3 o d v E L F a4;go_wp2_with fail;rw[Cu];refine rV (EO (k:=10) (n:=0) (t:=T) (a:=0) (b:=0) rfl rfl ⟨bf,bf,bf,bf,bf⟩) rfl ⟨rfl,⟨q,D,r,⟨bf,bf,bf,bf⟩,bf,bf,bf⟩,?_⟩;exact pj
def UW(g:Nat)(A A':acN)(n c m d B a:Nat)(xs:acM)(w:World)(M:wP w g A n c a 0 A' m d)(S:g<w.heap.size)(W:Rd w B A n xs)(E:B<=g)(Z:n<=100000000)(O:a<=n)(v:pk xs a=45\/vr (pk xs a)=true):Calls Tryz.prog 153 #[.pointer (some ⟨g,0,none⟩),.int .u8 ((pk xs a).toNat:Int)] w fun e' w'=>e'=.returned (RM 9 (QU xs a) [] 0 0)/\wP w' g A n c (EL xs a) (U8 xs a) A' m d/\Below g w w':=by
 have F:Lib.indexByte xl (pk xs a)= -1:=by have key:∀k:Fin 256,(UInt8.ofNat k.val=45\/vr (UInt8.ofNat k.val)=true)->Lib.indexByte xl (UInt8.ofNat k.val)= -1:=bC;have h:=key ⟨(pk xs a).toNat,(pk xs a).toNat_lt⟩;simp only[w0]at h;exact h v
 have r:=fun w=>Tryz.strings_IndexByte ⟨xl.toArray⟩ ((pk xs a).toNat:Int) w
 have I:((((pk xs a).toNat:Nat):Int)).toNat.toUInt8=pk xs a:=bi;simp only[I,F]at r;have l:∀w,Calls Tryz.prog 152 #[.string ⟨#[123,125,91,93,58,44]⟩,.int .u8 ((pk xs a).toNat:Int)] w fun e w'=>e=.returned (.int .i64 (-1))/\w'=w:=fun w=>r w
 have L:=fun w1(C:wP w1 g A n c a 0 A' m d) D o=>NW g A A' n c m d B a xs w1 C D o E V O
 have q:=fun w1=>yR (pk xs a) w1
 have U:=(pk xs a).toNat_lt;have R:(((pk xs a).toNat:Int)=45)\/((((pk xs a).toNat:Int)==45)=false/\((((pk xs a).toNat:Int)==34)=false)/\vr (pk xs a)=true):=by
  by_cases h:pk xs a=45;·left;rw[h];rfl
  ·right;have G:=v.resolve_left h;have H:=G;unfold vr at H;simp only[rQ]at H;exact⟨rr.2 V,rr.2 V,G⟩
 generalize QU xs a=rp at*;generalize EL xs a=T at*;generalize U8 xs a=X at*;clear r I F v;have HN:=rq L;have HX:=rq M;clear L M;have BX3:wP (w.alloc (wZ)) g A n c a 0 A' m d:=HX.out.below ((acQ w).al rT _) S;have vX:Below g w (w.alloc (wZ)):=(Below.refl g w).alloc V _;have hw0:P2 (w.alloc (wZ)) w.heap.size 0 0 [] 0 0:=⟨bf,bf,bf,bf,bf⟩;have YP:∀j,(w.alloc (wZ)).frozen? ⟨w.heap.size,j,none⟩=false:=fun j=>bf
 have W4:g<(w.alloc (wZ)).heap.size:=by simp;omega
 have U4:w.heap.size<(w.alloc (wZ)).heap.size:=bi;have hr3:=W.tw vX E;rcases R with h|⟨C,D,o⟩;·rw[h]at l|-;clear q h U;go_enter Gq,Ex;go_wp2_with fail;go_step3;go_wp2_with fail;refine(l _).mono ?_;rintro e' N ⟨rfl,rfl⟩;clear l;exact lu
 ·rw[o]at q;clear o;generalize(((pk xs a).toNat:Nat):Int)=Y at*;go_enter Gq,Ex;go_wp2_with fail;go_step3;go_wp2_with fail;refine(l _).mono ?_;rintro e' N ⟨rfl,rfl⟩;clear l;go_wp2_with fail;refine(q _).mono ?_;rintro e' N ⟨rfl,rfl⟩;clear q;exact lu
def yL(xs:acM)(a:Nat):Int×Int×Nat:=if Lib.hasPrefix (xs.drop a) [116,114,117,101]=true then(7,1,a+4)else if Lib.hasPrefix (xs.drop a) [102,97,108,115,101]=true then(7,0,a+5)else if Lib.hasPrefix (xs.drop a) [110,117,108,108]=true then(8,0,a+4)else(0,0,a)
def IZ(xs:acM)(a:Nat):Int:=if(yL xs a).1=0\/wF (pk xs (yL xs a).2.2)=true then 20 else 0
def Pp{l p:acM}(h:Lib.hasPrefix l p=true):p.length<=l.length:=by unfold Lib.hasPrefix at h;rw[List.isPrefixOf_iff_prefix]at h;exact h.length_le
