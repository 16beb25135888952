import Derived.Test.YtccjlcadbpinfaaGreatDoorX7
import Derived.Test.YtccjlcadbpinfaaGreatDoorX8
set_option linter.all false
set_option maxRecDepth 100000
set_option maxHeartbeats 8000000
namespace Go.Proofs.YtccjlcadbpinfaaGreatDoor.Tp
open ChangeShapes WideShapes ChangeAt RowKit
open Num Mem Can
def UU(g:Nat)(A:acN)(n c B a:Nat)(xs:acM)(w:World)(m:wP w g A n c a 0 none 0 0)(e:g<w.heap.size)(l:Rd w B A n xs)(o:B<=g)(j:n<=100000000)(p:n<=c)(y:a<n):Calls Tryz.prog 153 #[.pointer (some ⟨g,0,none⟩),.int .u8 ((pk xs a).toNat:Int)] w fun e' w'=>e'=.returned (RM (uT xs a).1 (uT xs a).2.1 (uT xs a).2.2.1 0 0)/\(∃q G v,wP w' g A n c ((uT xs a).2.2.2.1:Int) (uT xs a).2.2.2.2 q G v)/\Below g w w':=by
 have D:=l.len;unfold uT;rw[D];rcases Wt (pk xs a)with h|⟨i,h,C⟩
 ·have E:¬0<=Lib.indexByte xl (pk xs a):=V;simp only[ru E];by_cases d:pk xs a=34;·simp only[rv d];rw[d];exact Ot g A n c B a xs w m e l o j p y
  ·simp only[ru d];by_cases b:pk xs a=45\/vr (pk xs a)=true;·simp only[rv b];exact(UW g A none n c 0 0 B a xs w m e l o j V b).mono fun e' w' h=>⟨h.1,⟨none,0,0,h.2.1⟩,h.2.2⟩
   ·simp only[ru b];have z:vr (pk xs a)=false:=by simpa using fun h=>b (.inr h)
    exact(Ru g A none n c 0 0 B a xs w m e l o j p V h d (fun h=>b (.inl h)) z).mono fun e' w' h=>⟨h.1,⟨none,0,0,h.2.1⟩,h.2.2⟩
 ·have F:0<=Lib.indexByte xl (pk xs a):=V;simp only[rv F];rw[h];exact(Rv g A none n c 0 0 a i (pk xs a) w m e j V h C).mono fun e' w' h=>⟨h.1,⟨none,0,0,h.2.1⟩,h.2.2⟩
def DD:acM:=[32,9,10,13]
def US(c:UInt8):(wR c=true/\0<=Lib.indexByte DD c)\/(wR c=false/\Lib.indexByte DD c= -1):=by have key:∀k:Fin 256,(wR (UInt8.ofNat k.val)=true/\0<=Lib.indexByte DD (UInt8.ofNat k.val))\/(wR (UInt8.ofNat k.val)=false/\Lib.indexByte DD (UInt8.ofNat k.val)= -1):=bC;have h:=key ⟨c.toNat,c.toNat_lt⟩;simpa only[w0]using h
def Rg{xs:acM}{a:Nat}(ha:a<xs.length)(h:wR (pk xs a)=true):vH xs (a+1)=vH xs a:=by unfold vH;have e:xs.drop a=pk xs a::xs.drop (a+1):=jQ;rw[e,KW,rv h];simp;omega
def Rh{xs:acM}{a:Nat}(ha:a<xs.length)(h:wR (pk xs a)=false):vH xs a=a:=by unfold vH;have e:xs.drop a=pk xs a::xs.drop (a+1):=jQ;rw[e,KW,ru iE];rfl
def Ub(xs:acM):vH xs xs.length=xs.length:=by unfold vH;simp
def Ci:Except Int Wd->Wd
 | .ok w=>w
 | .error _=>⟨0,0,[],0,0⟩
def FJ:Except Int Wd->Int
 | .ok _=>0
 | .error e=>e
def wdW(w:Wd):Value:=RM w.kind w.int w.text (w.at_:Int) (w.next:Int)
def _root_.Go.Proofs.YtccjlcadbpinfaaGreatDoor.Can.uK.set{X:Addr->Prop}{B:Nat}{a w:World}{p:Addr}{u:Value}(h:uK X B a w)(b:X p):uK X B a (w.setCell p u):=h.trans (uK.setCell w u b)
def Ki{e:Func}{p q:Tmp}{te:Value}(h:e.results= #[.cell p 117,.tmp q]){d:Array Value}{w:World}{g:Nat}{k n:Int}{t:acM}{a b:Int}(hp:d.getD p undef=.pointer (some ⟨g,0,none⟩))(hq:d.getD q undef=te)(m:P2 w g k n t a b):(results e d).run Tryz.prog w=.ok (.tuple #[RM k n t a b,te]) w:=by have j:d[p]?.getD undef=.pointer (some ⟨g,0,none⟩):=iy;have l:d[q]?.getD undef=te:=fe;simp only[results,h];simp[uL,Result.andThen,j,l,asAddr,Pg w g k n t a b m]
def Sm(A:acN)(n c B a:Nat)(xs:acM)(w:World)(be:Rd w B A n xs)(cb:B<=w.heap.size)(cf:n<=100000000)(ch:n<=c)(cc:a<=n):Calls Tryz.prog 106 #[.slice A n c,.int .i64 (a:Int)] w fun e' w'=>e'=.returned (.tuple #[wdW (Ci (se xs a)),.int .i64 (FJ (se xs a))])/\acP w w':=by
 have aa:=be.len;obtain⟨R,a8⟩:∃R,R=se xs a:=⟨_,rfl⟩;rw[<-a8];have M:=rq a8;clear a8;have tm:=(acQ w).al rT (wZ);have an:=Js.new w 0 0 [] 0 0 w.heap.size rfl;have bj:=be.tw tm cb;have c4:w.heap.size<(w.alloc (wZ)).heap.size:=bi;have d2:decide ((a:Int)<0)=false:=bi;have d3:decide ((n:Int)<(a:Int))=false:=by simp;omega
 have d4:decide (n<a)=false:=by simp;omega
 go_enter Tryz.func106,Tryz.ntmps106;go_upto_region 1 with fail;generalize w.alloc (wZ)=w1 at*;go_wp2_with fail;go_loopw [1] (fun s wr=>∃j:Nat,s=.int .i64 (j:Int)/\a<=j/\j<=n/\vH xs j=vH xs a/\w1=wr) (fun s _=>n-(intOf s).toNat);case atStart=>exact⟨a,rfl,rN _,cc,rfl,rfl⟩
 case
  round=>
   obtain⟨j,rfl,dd,df,b8,rfl⟩:=hrel;have z:=rq b8;clear b8;by_cases h:j<n
   ·have d9:(j:Int)<(n:Int):=V;obtain⟨m,v,x,b2,d6,bp,b5⟩:=bj.at_ h;have d8:m<w1.heap.size:=by have:=tm.size;omega
    have b9:x=pk xs j:=by simp[pk,List.getD,bp]
    have a7:=fun w=>Tryz.strings_IndexByte ⟨DD.toArray⟩ (x.toNat:Int) w
    have b7:(((x.toNat:Nat):Int)).toNat.toUInt8=x:=bi;simp only[b7]at a7;have U:∀w,Calls Tryz.prog 152 #[.string ⟨#[32,9,10,13]⟩,.int .u8 (x.toNat:Int)] w fun e w'=>e=.returned (.int .i64 (Lib.indexByte DD x))/\w=w':=fun w=>(a7 w).mono fun _ _ h=>⟨h.1,h.2.symm⟩
    clear a7 b7;have dj:=x.toNat_lt;have a5:=rq b9;have cj:=US x;generalize Lib.indexByte DD x=cs at*;have cr:=b2;subst b2;clear b9 bp;rcases cj with⟨y,bn⟩|⟨y,bn⟩
    ·have c5:=rq y;clear y;go_wp2_with fail;refine(U _).mono ?_;rintro e' cl ⟨rfl,rfl⟩;clear U;go_wp2_with fail;go_roundw;case rel=>have b1:=(Rg V (a5.out▸c5.out)).trans z.out;first|exact⟨j+1,by simp,V,V,b1,rfl⟩|exact⟨j+1,by simp,V,V,b1,trivial⟩
     case measure=>simp[intOf];omega
    ·subst bn;have W:vH xs a=j:=z.out.symm.trans (Rh V (a5.out▸y));have O:R=if(uT xs j).2.2.2.2=0 then .ok ⟨(uT xs j).1,(uT xs j).2.1,(uT xs j).2.2.1,j,(uT xs j).2.2.2.1⟩else .error (uT xs j).2.2.2.2:=by rw[M.out];unfold se;rw[W,ru V]
     have di:¬(j:Int)=(n:Int):=V;have C:=rq O;clear O W y z M;have X:=fun a3(c7:wP a3 w1.heap.size (some ⟨m,v,none⟩) n c j 0 none 0 0) c8 c9=>UU w1.heap.size (some ⟨m,v,none⟩) n c B j xs a3 c7 c8 c9 (by have:=tm.size;omega) cf ch h
     rw[<-a5.out]at X;generalize uT xs j=rp at*;obtain⟨G,H,I,vp,c3⟩:=rp;simp only[RM]at X C;have ad:=rq X;clear X;go_wp2_with fail;refine(U _).mono ?_;rintro e' cl ⟨rfl,rfl⟩;clear U;go_wp2_with fail;have E:=(acQ w1).al rT (.cells #[.slice (some ⟨m,v,none⟩) n c,.int .i64 (j:Int),.int .i64 0,.slice none 0 0] 227);have ab:wP (w1.alloc (.cells #[.slice (some ⟨m,v,none⟩) n c,.int .i64 (j:Int),.int .i64 0,.slice none 0 0] 227)) w1.heap.size (some ⟨m,v,none⟩) n c j 0 none 0 0:=⟨⟨bf,bf,bf,bf⟩,bf,bf,bf⟩;have ci:w1.heap.size<(w1.alloc (.cells #[.slice (some ⟨m,v,none⟩) n c,.int .i64 (j:Int),.int .i64 0,.slice none 0 0] 227)).heap.size:=bi;have dk:=tm.size;have y:w.heap.size<w1.heap.size:=c4;have ar:=an.below E V;have b3:=tm.sV rT E;have bk:=bj.tw E V;have d5:=(E.cell (p:=⟨m,v+j,none⟩) bd).trans b5;clear b5 E;generalize w1.alloc (.cells #[.slice (some ⟨m,v,none⟩) n c,.int .i64 (j:Int),.int .i64 0,.slice none 0 0] 227)=a3 at*;refine(ad.out a3 ab ci bk).mono ?_;rintro e' o ⟨rfl,⟨cp,ds,ct,br⟩,a9⟩;have dp:=a9.size;have aU:=ar.below a9 V;have b4:=b3.trans (a9.mono V);clear ad ab bk ar b3;generalize w1.heap.size=g at*;go_upto_region 9 with fail;have S:=(acQ o).al rT (wC G H ⟨I.toArray⟩ 0 0);have ak:=Js.new o G H I 0 0 o.heap.size rfl;have ac:=br.below S V;have b0:=aU.below S V;have T:=b4.sV V S;have dr:o.heap.size<(o.alloc (wC G H ⟨I.toArray⟩ 0 0)).heap.size:=bi;clear br S b4 aU;generalize o.alloc (wC G H ⟨I.toArray⟩ 0 0)=dz at*;have d7:g<o.heap.size:=V;generalize o.heap.size=f at*;have L:=rq ac;have N:=rq b0;have a6:=rq ak;obtain⟨⟨a1,r1,F,a2⟩,Y,Z,a0⟩:=ac;clear b0 ak;by_cases b6:c3=0;·subst b6;have D:=C.out;rw[rv rfl]at D;subst D;clear C;go_upto_region 11 with fail;clear a1 r1 F a2 Y Z a0;refine su [0,1,2,3,4,5,6,7,8] [6,8] bg bg bi bg (fun _ _ d _ _ h=>bw) (fun wd l sW=> ?_);have a4:=(L.out.below l V);obtain⟨⟨a1,r1,F,a2⟩,Y,Z,a0⟩:=a4;obtain⟨⟨cx,cy,cz,cS,d0⟩,d1⟩:=a6.out.below l V;have c6:=N.out.below l V;have Bj:=T.sV V l;clear l L a6 N T;refine ao ?_;refine sB rfl rfl (g+1) V (fun af q=> ?_);go_wp2_with fail;refine q _ _ (vK.setCell bd _) ?_;clear q;refine ao ?_;refine sB rfl rfl (g+1) V (fun af q=> ?_);go_wp2_with fail;refine q _ _ (vK.setCell bd _) ?_;clear q;refine ao ?_;refine sn ?_;obtain⟨⟨u0,bs,bv,bx,bz⟩,bO⟩:=c6;go_wp2_with fail;refine rV (Ki (te:=.int .i64 0) (k:=G) (n:=H) (t:=I) (a:=(j:Int)) (b:=(vp:Int)) rfl rfl rfl ⟨bf,bf,bf,bf,bf⟩) rfl ⟨rfl,?_⟩;exact lA
     ·have D:=C.out;rw[ru b6]at D;subst D;clear C;go_upto_region 10 with fail;clear a1 r1 F a2 Y Z a0;refine td (K:=uK (fun p=>p.block=w.heap.size)) (uK.keeps _) (sk.of [0,1,2,3,4,5,6] .nil) [5] bg bg bC bg (fun _ _ d _ _ h=>bw) (fun dB l sW=> ?_);have a4:=(L.out.below l V);obtain⟨⟨a1,r1,F,a2⟩,Y,Z,a0⟩:=a4;obtain⟨⟨u0,bs,bv,bx,bz⟩,bO⟩:=N.out.below l V;have Bj:=T.sV V l;clear l L a6 N T;repeat((first|(refine ua rfl rfl rfl bh ?_)|(refine uq rfl rfl rfl ?_)|(refine uk rfl rfl rfl (g+1) V _ (by intro w' hb;have y0:=(hb.cell ⟨g,2,none⟩ bd cC).trans F;clear hb;go_simp;first|done|with_reducible rfl) ?_));simp only[Act.put,rB,rz,rA])
      refine rZ rfl rfl (g+1) V (fun af q=> ?_);go_wp2_with fail;refine q _ _ ?_ ?_;·exact bY
      clear q;repeat((first|(refine ua rfl rfl rfl bh ?_)|(refine uq rfl rfl rfl ?_)|(refine uk rfl rfl rfl (g+1) V _ bB ?_));simp only[Act.put,rB,rz,rA])
      refine sI ?_;go_wp2_with fail;refine rV (Ki (te:=.int .i64 c3) (k:=0) (n:=0) (t:=[]) (a:=0) (b:=0) rfl rfl rfl ⟨bf,bf,bf,bf,bf⟩) rfl ⟨rfl,?_⟩;exact lA
   ·obtain rfl:j=n:=V;have W:vH xs a=j:=by rw[<-z.out,<-aa];exact Ub xs
    have O:R=.ok ⟨11,0,[],j,j⟩:=by rw[M.out];unfold se;rw[W,rv aa.symm,aa]
    subst O;clear M z;obtain⟨⟨u0,bs,bv,bx,bz⟩,bO⟩:=an;go_wp2_with fail;refine rV (Ki (te:=.int .i64 0) (k:=11) (n:=0) (t:=[]) (a:=(j:Int)) (b:=(j:Int)) rfl rfl rfl ⟨bf,bf,bf,bf,bf⟩) rfl ⟨rfl,?_⟩;exact lX
def aaI(w:World)(g:Nat)(A:acN)(n c:Nat)(a e:Int)(wd:Wd):Prop:=w.cell? ⟨g,0,none⟩=some (.slice A n c)/\w.cell? ⟨g,1,none⟩=some (.int .i64 a)/\w.cell? ⟨g,2,none⟩=some (.int .i64 e)/\w.cell? ⟨g,3,none⟩=some (.int .i64 wd.kind)/\w.cell? ⟨g,4,none⟩=some (.int .i64 wd.int)/\w.cell? ⟨g,5,none⟩=some (.string ⟨wd.text.toArray⟩)/\w.cell? ⟨g,6,none⟩=some (.int .i64 (wd.at_:Int))/\w.cell? ⟨g,7,none⟩=some (.int .i64 (wd.next:Int))
def Ck(w:World)(g:Nat)(A:acN)(n c:Nat)(a e:Int)(wd:Wd):Prop:=aaI w g A n c a e wd/\∀j,w.frozen? ⟨g,j,none⟩=false
def Ck.keep{w w':World}{g:Nat}{A:acN}{n c:Nat}{a e:Int}{wd:Wd}(h:Ck w g A n c a e wd)(b:∀j,w'.cell? ⟨g,j,none⟩=w.cell? ⟨g,j,none⟩)(C:∀j,w'.frozen? ⟨g,j,none⟩=w.frozen? ⟨g,j,none⟩):Ck w' g A n c a e wd:=by obtain⟨⟨d,l,m,o,p,q,v,y⟩,z⟩:=h;exact⟨⟨(b 0).trans d,(b 1).trans l,(b 2).trans m,(b 3).trans o,(b 4).trans p,(b 5).trans q,(b 6).trans v,(b 7).trans y⟩,fun j=>(C j).trans (z j)⟩
def Ck.below{w w':World}{g B:Nat}{A:acN}{n c:Nat}{a e:Int}{wd:Wd}(h:Ck w g A n c a e wd)(hb:Below B w w')(b:g<B):Ck w' g A n c a e wd:=h.keep (fun _=>hb.cell b) (fun _=>hb.frozen b)
def Ck.off{w w':World}{g B x:Nat}{A:acN}{n c:Nat}{a e:Int}{wd:Wd}(h:Ck w g A n c a e wd)(hb:rS x B w w')(b:g<B)(d:g≠x):Ck w' g A n c a e wd:=h.keep (fun _=>hb.cell b d) (fun _=>hb.frozen b d)
def _root_.Go.RowKit.Below.Xs{B:Nat}{w:World}(d:B<=w.heap.size)(a b:Obj):Below B (w.alloc a) (w.alloc b):=⟨rfl,rfl,rfl,bi,fun k e=>(JK w _ (show k<w.heap.size from V)).trans (JK w _ (show k<w.heap.size from V)).symm⟩
def Hm(g:Nat)(A:acN)(n c:Nat)(a e:Int)(wd:Wd)(w:World)(d:Ck w g A n c a e wd)(b:e≠0):Calls Tryz.prog 52 #[.pointer (some ⟨g,0,none⟩)] w fun e' w'=>e'=.returned (.int .i64 0)/\w=w':=by have C:(e==0)=false:=rr.2 b;obtain⟨⟨j,l,m,o,p,q,v,y⟩,z⟩:=d;go_enter Tryz.func52,Tryz.ntmps52;exact bE
def Jf(a:Nat):Except Int Wd->Nat
 | .ok w=>w.next
 | .error _=>a
def Kr(wd:Wd):Except Int Wd->Wd
 | .ok w=>w
 | .error _=>wd
def x7(g:Nat)(A:acN)(n c B a:Nat)(xs:acM)(wd:Wd)(w:World)(a5:Ck w g A n c a 0 wd)(ar:g<w.heap.size)(ab:Rd w B A n xs)(af:B<=g)(a9:n<=100000000)(aa:n<=c)(a7:a<=n):Calls Tryz.prog 52 #[.pointer (some ⟨g,0,none⟩)] w fun e' w'=>e'=.returned (.int .i64 (Ci (se xs a)).kind)/\Ck w' g A n c (Jf a (se xs a)) (FJ (se xs a)) (Kr wd (se xs a))/\rS g w.heap.size w w':=by
 have a1:∀e,se xs a=.error e->e≠0:=fun e h=>fp
 have R:=fun w1 o(h2:B<=w1.heap.size)=>Sm A n c B a xs w1 o h2 a9 aa a7
 have a2:FJ (se xs a)=0->Jf a (se xs a)=(Ci (se xs a)).next
  /\Kr wd (se xs a)=Ci (se xs a):=fun h=>
   by
    cases L:se xs a with
    |ok v=>exact bH
    |error e=>rw[L]at h;exact absurd h (a1 e L)
 have a0:FJ (se xs a)≠0->Jf a (se xs a)=a/\Kr wd (se xs a)=wd/\(Ci (se xs a)).kind=0:=fun h=>
  by
   cases L:se xs a with
   |ok v=>rw[L]at h;exact jB
   |error e=>exact⟨rfl,rfl,rfl⟩
 clear a1;generalize Jf a (se xs a)=N2 at*;generalize Kr wd (se xs a)=ad at*;generalize Ci (se xs a)=rp at*;generalize FJ (se xs a)=E at*;have HOK:=rq a2;have Cv:=rq a0;clear a2 a0;obtain⟨vk,vn,vt,va,vp⟩:=rp;simp only[wdW,RM]at R|-;have z:=rq R;have W:=rq a5;clear R;obtain⟨⟨q,o,h2,C,D,F,G,H⟩,I⟩:=a5;go_enter Tryz.func52,Tryz.ntmps52;go_upto_region 3 with fail;clear q o h2 C D F G H I;refine td (K:=Below) Below.keeps (sk.of [0,1,2,3,4,5,6,7] (.fork 8 (sk.of [9,10,11,12,13,14] .nil) 12 (sk.of [8,9,10,11,13,14] .nil))) [8,12,13] bg bg bC bg (fun _ _ d _ _ h=>bw) (fun we hd sW=> ?_);have S:=W.out.below hd V;have N:=ab.tw hd V;have M:=hd;have aU:g<we.heap.size:=V;have b0:w.heap.size<=we.heap.size:=V;clear hd W sW;have y:=rq S;obtain⟨⟨q,o,h2,C,D,F,G,H⟩,I⟩:=S;repeat((first|(refine ua rfl rfl rfl bh ?_)|(refine uq rfl rfl rfl ?_)|(refine uk rfl rfl rfl (we.heap.size) V _ (by intro w' hb;have y0:=(hb.cell (p:=⟨g,0,none⟩) bd).trans q;have y1:=(hb.cell (p:=⟨g,1,none⟩) bd).trans o;clear hb;go_simp;first|done|with_reducible rfl) ?_));simp only[Act.put,rB,rz,rA])
 refine zB rfl rfl we.heap.size V (fun Q1 sP=> ?_) (fun Q1 sP=> ?_);·go_wp2_with fail;refine(z.out we N V).mono ?_;rintro e' b ⟨rfl,l⟩;go_wp2_with fail;refine sP _ _ l ?_;clear sP;have a4:=l.size;refine ap ?_;refine rZ rfl rfl we.heap.size V (fun Q1 sP=> ?_);go_wp2_with fail;refine sP _ _ (vK.alloc V _) ?_;clear sP;refine rZ rfl rfl we.heap.size V (fun Q1 sP=> ?_);go_wp2_with fail;refine sP _ _ (Below.Xs V _ _) ?_;clear sP;refine ap ?_;refine sI ?_;have m:=(acQ b).al rT (wC vk vn ⟨vt.toArray⟩ (va:Int) (vp:Int));have Rx:=(y.out.below l V).below m V;have Ze:=Js.new b vk vn vt va vp b.heap.size rfl;have xo:=(M.sV V l).sV V m;have a8:b.heap.size<(b.alloc (wC vk vn ⟨vt.toArray⟩ (va:Int) (vp:Int))).heap.size:=bi;have ak:w.heap.size<=b.heap.size:=V;clear m l y N M z q o h2 C D F G H I a4;generalize b.alloc (wC vk vn ⟨vt.toArray⟩ (va:Int) (vp:Int))=w6 at*;generalize b.heap.size=f at*;exact lq
 ·go_wp2_with fail;refine sP _ _ (vK.alloc V _) ?_;clear sP;have m:=(acQ we).al rT (wZ);have T:=y.out.below m V;have X:=Js.new we 0 0 [] 0 0 we.heap.size rfl;have a3:=N.tw m V;have Y:=M.sV V m;have an:we.heap.size<(we.alloc (wZ)).heap.size:=bi;refine rZ rfl rfl we.heap.size V (fun Q1 sP=> ?_);generalize we.alloc (wZ)=ac at*;go_wp2_with fail;refine(z.out ac a3 V).mono ?_;rintro e' b ⟨rfl,l⟩;go_wp2_with fail;refine sP _ _ (l.mono V) ?_;clear sP;have a4:=l.size;have U:=T.below l V;have a6:=X.below l V;have Z:=Y.sV V l;obtain⟨⟨f0,f1,f2,f3,f4⟩,f5⟩:=a6;refine ap ?_;refine rZ rfl rfl we.heap.size V (fun Q1 sP=> ?_);go_wp2_with fail;refine sP _ _ ?_ ?_;·repeat' (first|with_reducible exact Below.refl _ _|with_reducible refine Below.setCell ?_ bd _)
  clear sP;refine ap ?_;refine sI ?_;have O:rS we.heap.size b.heap.size b (((((b.setCell ⟨we.heap.size,0,none⟩ (.int .i64 vk)).setCell ⟨we.heap.size,1,none⟩ (.int .i64 vn)).setCell ⟨we.heap.size,2,none⟩ (.string ⟨vt.toArray⟩)).setCell ⟨we.heap.size,3,none⟩ (.int .i64 (va:Int))).setCell ⟨we.heap.size,4,none⟩ (.int .i64 (vp:Int))):=(((((rS.refl _ _ _).setAt 0 _).setAt 1 _).setAt 2 _).setAt 3 _).setAt 4 _;have Rx:=U.off O V V;have Ze:Js (((((b.setCell ⟨we.heap.size,0,none⟩ (.int .i64 vk)).setCell ⟨we.heap.size,1,none⟩ (.int .i64 vn)).setCell ⟨we.heap.size,2,none⟩ (.string ⟨vt.toArray⟩)).setCell ⟨we.heap.size,3,none⟩ (.int .i64 (va:Int))).setCell ⟨we.heap.size,4,none⟩ (.int .i64 (vp:Int))) we.heap.size vk vn vt va vp:=⟨⟨bf,bf,bf,bf,bf⟩,fun j=>by have:=f5 j;go_simp⟩;have xo:=Z.trans (O.below (B':=w.heap.size) V V);have a8:we.heap.size<((((((b.setCell ⟨we.heap.size,0,none⟩ (.int .i64 vk)).setCell ⟨we.heap.size,1,none⟩ (.int .i64 vn)).setCell ⟨we.heap.size,2,none⟩ (.string ⟨vt.toArray⟩)).setCell ⟨we.heap.size,3,none⟩ (.int .i64 (va:Int))).setCell ⟨we.heap.size,4,none⟩ (.int .i64 (vp:Int)))).heap.size:=by simp;omega
  clear f0 f1 f2 f3 f4 f5 U Z O y T X N a3 M Y z m l q o h2 C D F G H I;generalize(((((b.setCell ⟨we.heap.size,0,none⟩ (.int .i64 vk)).setCell ⟨we.heap.size,1,none⟩ (.int .i64 vn)).setCell ⟨we.heap.size,2,none⟩ (.string ⟨vt.toArray⟩)).setCell ⟨we.heap.size,3,none⟩ (.int .i64 (va:Int))).setCell ⟨we.heap.size,4,none⟩ (.int .i64 (vp:Int)))=w6 at*;generalize we.heap.size=f at*;exact lq
end Go.Proofs.YtccjlcadbpinfaaGreatDoor.Tp
namespace Go.Proofs.YtccjlcadbpinfaaGreatDoor.Tp
open Num Mem Can
def L9{xs:acM}{a:Nat}(h:pk xs a≠0):a<xs.length:=by
 rcases sX a xs.length with b|b;·exact b
 ·unfold pk at h;rw[List.getD,ta b]at h;exact jB
def JN{xs:acM}:∀(k a v:Nat),a<=(vg xs k a v).2
 |0,a,v=>rN _
 |k+1,a,v=>
 by
  unfold vg;split;·rename_i d _;have:=JN (xs:=xs) k (a+1) (v*16+d);omega
  ·exact iW
def Vw{xs:acM}{a:Nat}(h:(wD xs a).2.2=0):a<(wD xs a).1/\(wD xs a).1<=xs.length:=by
 unfold wD at h|-;cases l:JC (pk xs a)with
 |some b=>
  simp only;have m:pk xs a≠0:=fun e=>
   by
    rcases Nq (pk xs a)with⟨_,g⟩|⟨i,_,_,_,j⟩;·rw[l]at g;cases g
    ·exact j e
  have:=L9 m;omega
 |none=>
  rw[l]at h;simp only at h|-;by_cases d:pk xs a≠117;·rw[rv d]at h;simp at h
  ·rw[ru d]at h|-;have o:pk xs a=117:=by simpa using d
   have v:=L9 (xs:=xs) (a:=a) (by rw[o];decide);have y:=JN (xs:=xs) 4 (a+1) 0;have C:=BM (xs:=xs) 4 (a+1) 0 V;have q:a<(CA xs a).2/\(CA xs a).2<=xs.length:=by
    unfold CA;split;·rename_i p;have j:=L9 (xs:=xs) (a:=(vg xs 4 (a+1) 0).2+1) (by rw[p.2.2.2];decide);have z:=JN (xs:=xs) 4 ((vg xs 4 (a+1) 0).2+2) 0;have D:=BM (xs:=xs) 4 ((vg xs 4 (a+1) 0).2+2) 0 V;exact bd
    ·omega
   split<;>exact q
def N0{xs:acM}:∀(f a:Nat)(ts:acM),(Dg xs f a ts).2.2=0->a<(Dg xs f a ts).2.1/\(Dg xs f a ts).2.1<=xs.length
 |0,a,ts,h=>by simp[Dg]at h
 |f+1,a,ts,h=>
 by
  unfold Dg at h|-;by_cases d:(pk xs a).toNat<32;·rw[rv d]at h;simp at h
  ·rw[ru d]at h|-;have l:a<xs.length:=L9 fun e=>d (by rw[e];decide)
   by_cases g:pk xs a=34;·rw[rv g];exact bd
   ·rw[ru g]at h|-;by_cases j:pk xs a=92
    ·rw[rv j]at h|-;by_cases b:(wD xs (a+1)).2.2=0;·rw[rv b]at h|-;have:=N0 f _ _ h;have:=Vw b;omega
     ·rw[ru b]at h;exact absurd h b
    ·rw[ru j]at h|-;by_cases b:(Ut.vM (xs.drop a)).2.2=0;·rw[rv b]at h|-;have:=N0 f _ _ h;omega
     ·rw[ru b]at h;simp at h
def TD{xs:acM}{a:Nat}(b:a<=xs.length):(yL xs a).2.2<=xs.length/\((yL xs a).1≠0->a<(yL xs a).2.2):=by
 have key:∀p:acM,Lib.hasPrefix (xs.drop a) p=true->a+p.length<=xs.length:=fun p h=>by have:=Pp h;rw[sx]at this;omega
 unfold yL;split;·exact mB
 ·split;·exact mB
  ·split;·exact mB
   ·exact⟨b,fun h=>absurd rfl h⟩
def UT{xs:acM}{a:Nat}(o:a<xs.length)(h:(uT xs a).2.2.2.2=0):a<(uT xs a).2.2.2.1/\(uT xs a).2.2.2.1<=xs.length:=by
 unfold uT at h|-;by_cases d:0<=Lib.indexByte xl (pk xs a);·rw[rv d];exact bd
 ·rw[ru d]at h|-;by_cases e:pk xs a=34;·rw[rv e]at h|-;simp only at h|-;have:=N0 _ _ _ h;omega
  ·rw[ru e]at h|-;by_cases g:pk xs a=45\/vr (pk xs a)=true
   ·rw[rv g]at h|-;simp only at h|-;have l:=L4 (xs.drop (xA xs a)) 0 false;rw[sx]at l;unfold U8 at h;simp only at h;unfold EL NU at*;have m:a<=xA xs a/\xA xs a<=a+1:=by unfold xA;split<;>omega
    by_cases b:(zo (xs.drop (xA xs a)) 0 false).2.2=0;·rw[rv (.inl b)]at h;simp at h
    ·omega
   ·rw[ru g]at h|-;simp only at h|-;have j:=TD (xs:=xs) (a:=a) V;unfold IZ at h;by_cases b:(yL xs a).1=0;·rw[rv (.inl b)]at h;simp at h
    ·exact⟨j.2 b,j.1⟩
def Ml{xs:acM}{a:Nat}(b:a<=xs.length):a<=vH xs a/\vH xs a<=xs.length:=by unfold vH;have:=(List.takeWhile_prefix (l:=xs.drop a) (p:=wR)).length_le;rw[sx]at this;omega
def ux{xs:acM}{a:Nat}{wd:Wd}(e:a<=xs.length)(h:se xs a=.ok wd):wd.next<=xs.length/\a<=wd.next/\(wd.kind≠11->a<wd.next):=by
 have g:=Ml e;unfold se at h;by_cases d:vH xs a=xs.length;·rw[rv d]at h;injection h with h;subst h;exact⟨rN _,e,fun h=>absurd rfl h⟩
 ·rw[ru d]at h;by_cases b:(uT xs (vH xs a)).2.2.2.2=0;·rw[rv b]at h;injection h with h;subst h;have:=UT V b;simp only;exact⟨this.2,V,fun _=>V⟩
  ·rw[ru b]at h;cases h
def vU{xs:acM}{a:Nat}{e:Int}(h:se xs a=.error e):e≠0:=fp
end Go.Proofs.YtccjlcadbpinfaaGreatDoor.Tp
namespace Go.Proofs.YtccjlcadbpinfaaGreatDoor.Tp
open ChangeShapes WideShapes ChangeAt RowKit
open Num Mem Can
def vD(g:Nat)(A:acN)(n c:Nat)(a e l:Int)(wd:Wd)(w:World)(d:Ck w g A n c a e wd):Calls Tryz.prog 103 #[.pointer (some ⟨g,0,none⟩),.int .i64 l] w fun e' w'=>e'=.returned (.tuple #[])/\Ck w' g A n c a (if e=0 then l else e) wd/\rS g w.heap.size w w':=by
 by_cases b:e=0;·subst b;rw[rv rfl];obtain⟨⟨o,p,q,v,y,z,C,D⟩,p8⟩:=d;go_enter Tryz.func103,Tryz.ntmps103;go_wp2_with fail;refine tY (tA rfl _ _ _) rfl ?_;exact⟨rfl,⟨⟨bf,bf,bf,bf,bf,bf,bf,bf⟩,fun j=>il⟩,(rS.refl _ _ _).setAt _ _⟩
 ·rw[ru b];have E:(e==0)=false:=rr.2 b;have m:=rq d;obtain⟨⟨o,p,q,v,y,z,C,D⟩,p8⟩:=d;go_enter Tryz.func103,Tryz.ntmps103;go_wp2_with fail;refine tY (tA rfl _ _ _) rfl ?_;exact⟨rfl,m.out,rS.refl _ _ _⟩
def jv(k i:Int)(t:ByteArray)(A:acN)(n c:Nat)(A':acN)(n' c':Nat):List Value:=[.int .i64 k,.int .i64 i,.string t,.slice A n c,.slice A' n' c']
def RZ(w:World)(r:Nat)(k i:Int)(t:ByteArray)(A:acN)(n c:Nat)(A':acN)(n' c':Nat):Prop:=w.cell? ⟨r,0,none⟩=some (.int .i64 k)/\w.cell? ⟨r,1,none⟩=some (.int .i64 i)/\w.cell? ⟨r,2,none⟩=some (.string t)/\w.cell? ⟨r,3,none⟩=some (.slice A n c)/\w.cell? ⟨r,4,none⟩=some (.slice A' n' c')
def vC(w:World)(r:Nat)(k i:Int)(t:ByteArray)(A:acN)(n c:Nat)(A':acN)(n' c':Nat):Prop:=RZ w r k i t A n c A' n' c'/\∀j,w.frozen? ⟨r,j,none⟩=false
section
variable{w w':World}{r x B n c n' c':Nat}{A A':acN}{k i:Int}{t:ByteArray}
def vC.keep(h:vC w r k i t A n c A' n' c')(a:∀j,w'.cell? ⟨r,j,none⟩=w.cell? ⟨r,j,none⟩)(o:∀j,w'.frozen? ⟨r,j,none⟩=w.frozen? ⟨r,j,none⟩):vC w' r k i t A n c A' n' c':=by obtain⟨⟨b,d,e,g,l⟩,m⟩:=h;exact⟨⟨(a 0).trans b,(a 1).trans d,(a 2).trans e,(a 3).trans g,(a 4).trans l⟩,fun j=>(o j).trans (m j)⟩
def vC.below(h:vC w r k i t A n c A' n' c')(hb:Below B w w')(a:r<B):vC w' r k i t A n c A' n' c':=h.keep (fun _=>hb.cell a) (fun _=>hb.frozen a)
def vC.off(h:vC w r k i t A n c A' n' c')(hb:rS x B w w')(a:r<B)(b:r≠x):vC w' r k i t A n c A' n' c':=h.keep (fun _=>hb.cell a b) (fun _=>hb.frozen a b)
def vC.new(w:World)(k i:Int)(t:ByteArray)(A:acN)(n c:Nat)(A':acN)(n' c':Nat)(g:Nat)(hg:g=w.heap.size):vC (w.alloc (jC k i t A n c A' n' c')) g k i t A n c A' n' c':=nj
def Pe(h:RZ w r k i t A n c A' n' c'):(loadVar 60 ⟨r,0,none⟩).run Tryz.prog w=.ok (jA k i t A n c A' n' c') w:=by obtain⟨a,b,d,e,g⟩:=h;go_simp
def uD{a:Func}{p:Tmp}(h:a.results= #[.cell p 60]){b:Array Value}(d:b.getD p undef=.pointer (some ⟨r,0,none⟩))(e:RZ w r k i t A n c A' n' c'):(results a b).run Tryz.prog w=.ok (jA k i t A n c A' n' c') w:=by rw[zV h,d];simp only[asAddr,vm,tK];exact Pe e
end
def YK(w:World)(X:acO)(cs:List Value):Option J->Prop
 |some j=>uf w X cs j
 |none=>∃(k i:Int)(t:ByteArray)(A:acN)(n c:Nat)(A':acN)(n' c':Nat),cs=jv k i t A n c A' n' c'
def xc:Way YK 5:=⟨fun{_ _ _ _ _ a} h d b=>by cases a with|none=>exact h|some j=>exact uf.keep h d b,fun{_ _ _ a} h=>by cases a with|none=>obtain⟨k,i,t,A,n,c,A',n',c',rfl⟩:=h;rfl|some j=>exact uf.len h,fun{_ _ _ a} h=>by cases a with|none=>obtain⟨k,i,t,A,n,c,A',n',c',rfl⟩:=h;simp[jv,Value.oneCell']|some j=>exact uG.one h⟩
def uY.ZZ{e:TypeId}{k:Nat}{S N:acO}{w:World}{H n c:Nat}{A:acN}{l:List J}(h:uY uf e k S N w H A n c l):uY YK e k S N w H A n c (l.map some):=by obtain⟨css,a,b,d,g,j⟩:=h;exact⟨css,a,b,by simp[d],g,fun i m o=>by simp only[Fv];exact j i m (by simpa using o)⟩
def uY.ofO{e:TypeId}{k:Nat}{S N:acO}{w:World}{H n c:Nat}{A:acN}{l:List J}(h:uY YK e k S N w H A n c (l.map some)):uY uf e k S N w H A n c l:=by obtain⟨css,a,b,h3,d,g⟩:=h;refine⟨css,a,b,ke,d,fun i j m=> ?_⟩;have:=g i j (by simpa using m);simp only[Fv]at this;exact this
def rJ:Except Int (J×Nat)->Option J
 | .ok (j,_)=>some j
 | .error _=>none
def rE:Except Int (J×Nat)->Int
 | .ok _=>0
 | .error e=>e
def FM(xs:acM)(g:Nat)(A:acN)(n c:Nat)(R:Except Int (J×Nat))(w:World):Prop:=∃(a:Nat)(wd:Wd),Ck w g A n c a (rE R) wd/\(∀j b,R=.ok (j,b)->a=b/\b<=xs.length)/\(∀e,R=.error e->e≠0)
def DL(xs:acM)(g:Nat)(A:acN)(n c:Nat)(R:Except Int (J×Nat))(w:World)(e:Ending)(w':World):Prop:=∃(k i:Int)(t:ByteArray)(a:acN)(h c1:Nat)(d:acN)(j c2:Nat),e=.returned (jA k i t a h c1 d j c2)/\YK w' (fun b=>w.heap.size<=b/\b<w'.heap.size) (jv k i t a h c1 d j c2) (rJ R)/\FM xs g A n c R w'/\rS g w.heap.size w w'
def Ix(xs:acM)(g:Nat)(A:acN)(n c B f:Nat):Prop:=∀(wd:Wd)(a:Nat)(w:World)(R:Except Int (J×Nat)),vB xs f wd a=some R->Ck w g A n c wd.next 0 wd->g<w.heap.size->Rd w B A n xs->wd.next<=n->a<=32->Calls Tryz.prog 51 #[.pointer (some ⟨g,0,none⟩),.int .i64 wd.kind,.int .i64 (a:Int)] w (DL xs g A n c R w)
def exists_least{p:acO}(h:∃m,p m):∃m,p m/\∀k,p k->m<=k:=by
 obtain⟨m,d⟩:=h;induction m using Nat.strongRecOn with
 |_ m ih=>
  by_cases h:∃k,k<m/\p k;·obtain⟨k,a,e⟩:=h;exact ih k a e
  ·exact⟨m,d,fun k a=>Nat.le_of_not_lt fun b=>h ⟨k,b,a⟩⟩
noncomputable def least(p:acO):Nat:=by classical exact if h:∃m,p m then(exists_least h).choose else 0
def G9{p:acO}(h:∃m,p m):p (least p):=by unfold least;rw[dif_pos h];exact(exists_least h).choose_spec.1
def least_le{p:acO}{m:Nat}(h:p m):least p<=m:=by have a:∃m,p m:=⟨m,h⟩;unfold least;rw[dif_pos a];exact(exists_least a).choose_spec.2 m h
def NM:zZ (fun _ _ _=>True):=⟨fun _ _=>trivial,fun _ _=>trivial,fun _ _=>trivial⟩
def JT{w:World}{N N':acO}{H a n c n' c':Nat}{A A':acN}{l:List J}{ks:List acM}{e e':TypeId}{k i:Int}(h:uY uf e 5 nS N w a A n c l)(o:uY MF e' 1 nS N' w a A' n' c' ks)(G:H<=a)(E:n<=100000000)(F:n'<=100000000):uf w (fun b=>H<=b/\b<w.heap.size) [.int .i64 k,.int .i64 i,.string ⟨([]:acM).toArray⟩,.slice A n c,.slice A' n' c'] (.mk k i [] l ks):=by
 obtain⟨css,z,C,D⟩:=h.row uG V;obtain⟨j,q,v,y⟩:=o.row ui V;have p:j=uF ks:=by apply zf (by simp[uF,v]);intro i g m;have:j[i]=[sv ks[i]]:=y i g V;rw[this];simp[uF]
 subst p;have d:∀b,(nS b\/a<=b)/\b<w.heap.size->H<=b/\b<w.heap.size:=fun b hb=>⟨eo,hb.2⟩
 exact .mk (z.keep (fun _ _=>rfl) d) C (fun i g m=>(D i g m).keep (fun _ _=>rfl) d) (q.keep (fun _ _=>rfl) d) h.cap o.cap E F
def Ti{w:World}{H a n c:Nat}{A:acN}{l:List J}{e:TypeId}{k i:Int}(h:uY uf e 5 nS nS w a A n c l)(d:H<=a)(g:n<=100000000):uf w (fun b=>H<=b/\b<w.heap.size) [.int .i64 k,.int .i64 i,.string ⟨([]:acM).toArray⟩,.slice A n c,.slice none 0 0] (.mk k i [] l []):=JT (N':=nS) (e':=9) h (uY.nil _ _ _ _ _ _ _) d g V
def Y6(xs:acM)(g:Nat)(A:acN)(n c j h H F:Nat)(R:Except Int (J×Nat))(m:Nat)(s:Value)(wr:World):Prop:=(∃(wd:Wd)(l:List J)(b:acN)(d c1:Nat),s=.int .i64 wd.kind/\Ck wr g A n c wd.next 0 wd/\vC wr h 5 0 ⟨#[]⟩ b d c1 none 0 0/\uY uf 60 5 nS nS wr H b d c1 l/\AT xs m wd j l=some R/\wd.next<=n/\m+l.length<=F)\/(m=0/\∃(k e:Int)(a:Nat)(wd:Wd)(b:acN)(d c1:Nat),s=.int .i64 k/\R=.error e/\e≠0/\Ck wr g A n c a e wd/\vC wr h 5 0 ⟨#[]⟩ b d c1 none 0 0)
def X6(g:Nat)(A:acN)(n c B a f a5:Nat)(xs:acM)(wd:Wd)(w:World)(R:Except Int (J×Nat))(em:∀m,m<f->Ix xs g A n c B m)(gx:f<=100000000)(el:Dn xs f a a5=some R)(f6:Ck w g A n c a 0 wd)(gd:g<w.heap.size)(d9:Rd w B A n xs)(b9:B<=g)(e2:n<=100000000)(e3:n<=c)(g9:a<=n)(gc:a5<=32):Calls Tryz.prog 105 #[.pointer (some ⟨g,0,none⟩),.int .i64 (a5:Int)] w (DL xs g A n c R w):=by
 have h3:=d9.len;have ea:=rq el;have g6:=rq em;clear el em;go_enter Tryz.func105,Tryz.ntmps105;go_upto_region 3 with fail;have d6:=((acQ w).al rT (jZ)).alloc bi (jC 5 0 ⟨#[]⟩ none 0 0 none 0 0);have e8:=f6.below d6 gd;have eg:=(vC.new w 0 0 ⟨#[]⟩ none 0 0 none 0 0 w.heap.size rfl).below (vK.alloc rT (jC 5 0 ⟨#[]⟩ none 0 0 none 0 0)) bi;have ef:=vC.new (w.alloc (jZ)) 5 0 ⟨#[]⟩ none 0 0 none 0 0 (w.heap.size+1) bi;have hc:w.heap.size+1<((w.alloc (jZ)).alloc (jC 5 0 ⟨#[]⟩ none 0 0 none 0 0)).heap.size:=bi;have e4:=d9.tw d6 V;generalize(w.alloc (jZ)).alloc (jC 5 0 ⟨#[]⟩ none 0 0 none 0 0)=w1 at*;go_wp2_with fail;refine(x7 g A n c B a xs wd w1 e8 V e4 b9 e2 e3 g9).mono ?_;rintro e' S ⟨rfl,b5,bx⟩;have hf:=bx.size;have dk:=eg.off bx V V;have d3:=ef.off bx V V;have LG:rS g w.heap.size w S:=(rS.of d6).trans (bx.mono V);have ha:=e4.off bx V b9;have W:Dn xs f a a5=some R:=ea.out;clear ea e8 eg ef e4 d6 f6;obtain⟨f,rfl⟩:∃g7,f=g7+1:=by cases f with|zero=>simp[Dn]at W|succ f=>exact⟨f,rfl⟩
 unfold Dn at W;have dB:∀e,se xs a=.error e->e≠0:=fun e h=>vU h
 have d7:=fun v h=>ux (xs:=xs) (a:=a) (wd:=v) V h
 by_cases h4:(Ci (se xs a)).kind=4
 ·obtain⟨v,f4⟩:∃v,se xs a=.ok v:=fJ;rw[f4]at W h4 b5|-;simp only[Ci]at h4;simp only[rv h4,sb]at W;subst W;have XV:=d7 v f4;simp only[Ci,Jf,FJ,Kr,h4]at b5|-;clear dB d7;obtain⟨⟨u0,fn,fs,g0,g1⟩,g2⟩:=dk;obtain⟨⟨a7,a9,aa,ab,ac⟩,a1⟩:=d3;go_wp2_with fail;refine rV (uD (k:=5) (i:=0) (t:=⟨#[]⟩) (A:=none) (n:=0) (c:=0) (A':=none) (n':=0) (c':=0) rfl rfl ⟨bf,bf,bf,bf,bf⟩) rfl ?_;have BQ:rS w.heap.size S.heap.size S (((((S.setCell ⟨w.heap.size,0,none⟩ (.int .i64 5)).setCell ⟨w.heap.size,1,none⟩ (.int .i64 0)).setCell ⟨w.heap.size,2,none⟩ (.string ⟨#[]⟩)).setCell ⟨w.heap.size,3,none⟩ (.slice none 0 0)).setCell ⟨w.heap.size,4,none⟩ (.slice none 0 0)):=(((((rS.refl _ _ _).setAt 0 _).setAt 1 _).setAt 2 _).setAt 3 _).setAt 4 _;refine⟨5,0,⟨#[]⟩,none,0,0,none,0,0,rfl,?_,⟨v.next,v,b5.off BQ V V,fun j a' h=> ?_,fun e h=>bX⟩,?_⟩;·exact .mk (Row.nil _ _ 5 none) rfl (fun i h=>absurd h bi) (Row.nil _ _ 1 none) rT rT V V
  ·exact jb
  ·exact lO
 ·have gr:((Ci (se xs a)).kind==4)=false:=rr.2 h4;have c8:∃m,Y6 xs g A n c a5 (w.heap.size+1) S.heap.size f R m (.int .i64 (Ci (se xs a)).kind) S:=by
   cases hT:se xs a with
   |error e=>rw[hT]at W b5;simp only[sb]at W;exact⟨0,.inr ⟨rfl,0,e,a,wd,none,0,0,rfl,W.symm,dB e hT,b5,d3⟩⟩
   |ok v=>rw[hT]at W b5 h4;simp only[Ci]at h4;simp only[ru h4]at W;exact⟨f,.inl ⟨v,[],none,0,0,rfl,b5,d3,uY.nil _ _ _ _ _ _ _,W,by have:=d7 v hT;omega,bi⟩⟩
  generalize(Ci (se xs a)).kind=K at*;clear b5 d3 dB d7 W h4 bx;have e9:=rq c8;clear c8;go_wp2_with fail;go_loopw [7] (fun s wr=>vC wr w.heap.size 0 0 ⟨#[]⟩ none 0 0 none 0 0/\rS g w.heap.size w wr/\S.heap.size<=wr.heap.size/\∃m,Y6 xs g A n c a5 (w.heap.size+1) S.heap.size f R m s wr) (fun s wr=>least fun m=>Y6 xs g A n c a5 (w.heap.size+1) S.heap.size f R m s wr);case atStart=>exact⟨dk,LG,rN _,e9.out⟩
  case
   round=>
    obtain⟨d4,AE,f3,en⟩:=hrel;have gi:=G9 en;clear en dk LG e9;generalize ek:(least fun m=>Y6 xs g A n c a5 (w.heap.size+1) S.heap.size f R m u7 wr)=M at*;have c3:=rq ek;clear ek;have e7:=d9.off AE V b9;rcases gi with⟨v,l,d1,C,c1,rfl,af,ad,d8,bn,XV,h6⟩|⟨h5,k,e,a2,v,d1,C,c1,rfl,rfl,he,af,ad⟩
    ·obtain⟨m,rfl⟩:∃m,M=m+1:=by cases M with|zero=>simp[AT]at bn|succ m=>exact⟨m,rfl⟩
     have h7:=d8.len V;unfold AT at bn;obtain⟨T,dz⟩:∃T,vB xs m v a5=some T:=by
      cases h:vB xs m v a5 with
      |none=>rw[h]at bn;cases bn
      |some T=>exact⟨T,rfl⟩
     rw[dz]at bn;have d2:=rq bn;clear bn;have f5:=fun w1 h1 h2 g8=>g6.out m V v a5 w1 T dz h1 h2 g8 XV gc
     have dj:=rq f5;clear f5 dz;have HP:=rq af;have di:=rq ad;obtain⟨⟨f7,f8,f9,fb,ff,fi,fj,fl⟩,fm⟩:=af;go_upto_region 7 with fail;clear f7 f8 f9 fb ff fi fj fl fm;go_cut []from 21 to 30 (fun bO=>vC bO w.heap.size 0 0 ⟨#[]⟩ none 0 0 none 0 0/\rS g w.heap.size w bO/\S.heap.size<=bO.heap.size/\FM xs g A n c T bO/\∃U c2,vC bO (w.heap.size+1) 5 0 ⟨#[]⟩ U (C+1) c2 none 0 0/\uY YK 60 5 nS nS bO S.heap.size U (C+1) c2 (l.map some++[rJ T]));case
      first
       =>
        refine td (K:=fun _ _ _=>True) NM (sk.of [0,2,3,4] (.fork 1 (sk.of [5,6,7,8,9] .nil) 5 ((.fork 1 (sk.of [6,7,8,9] .nil) 6 (sk.of [1,7,8,9] .nil))))) [1,5,6,7,9] bg bg bC bg (fun _ _ d _ _ h=>by cases d<;>exact h) (fun bz br gl=> ?_);have af:=HP.out.below br V;have ad:=di.out.below br V;have d5:=d4.below br V;have cb:=d8.below uG br;have dd:=e7.tw br V;have ci:=AE.trans (rS.of (br.mono dt));have hi:S.heap.size<=bz.heap.size:=V;clear HP di d4 d8 e7 AE br gl f3;have Zy:=cb.block;have h0:=ci.size;refine ai ?_;refine zB rfl rfl 0 rT (fun a3 o=> ?_) (fun a3 o=> ?_)
        ·have ak:=ad;obtain⟨⟨a7,a9,aa,ab,ac⟩,a1⟩:=ak;go_wp2_with fail;refine o _ _ trivial ?_;clear o;clear a7 a9 aa ab ac a1;refine ai ?_;refine rZ rfl rfl 0 rT (fun a3 o=> ?_);go_wp2_with fail;refine(dj.out bz af V dd).mono ?_;rintro e' y ⟨k,i,t,G,N,I,H,O,L,rfl,bk,RH,a4⟩;go_wp2_with fail;refine o _ _ trivial ?_;clear o;have gk:=a4.size;have b2:=ad.off a4 V V;have b6:=d5.off a4 V V;have bj:=cb.ZZ.off xc a4 V (by simp[nS]);have bp:=ci.trans (a4.mono V);clear af ad d5 cb dd ci a4;refine ai ?_;refine rZ rfl rfl 0 rT (fun a3 o=> ?_);go_wp2_with fail;refine o _ _ trivial ?_;clear o;have tm:=(acQ y).al rT (jC k i t G N I H O L);have c4:=vC.new y k i t G N I H O L y.heap.size rfl;have an:=b2.below tm V;have ar:=b6.below tm V;have aU:=bj.below xc tm;have b3:=bp.trans (rS.of (tm.mono V));have b0:=xc.keep (Y:=fun b=>(nS b\/bz.heap.size<=b)/\b<(y.alloc (jC k i t G N I H O L)).heap.size) bk (fun q cr=>tm.cell cr.2) (fun b hb=>⟨.inr hb.1,by simp;omega⟩);have D3:FM xs g A n c T (y.alloc (jC k i t G N I H O L)):=lU;have f0:y.heap.size<(y.alloc (jC k i t G N I H O L)).heap.size:=by simp
         clear tm b2 b6 bj bp bk RH;generalize(y.alloc (jC k i t G N I H O L))=g5 at*;generalize y.heap.size=q at*;refine ai ?_;refine rZ rfl rfl 0 rT (fun a3 o=> ?_);obtain⟨⟨j0,cx,cy,cz,cS⟩,_⟩:=c4;go_wp2_with(at_builtin;refine tX (z:=jA 0 0 ⟨#[]⟩ none 0 0 none 0 0) (bytes:=80) rfl tM yt rfl V V xc rfl rfl aU b0 V (fun b hb=>dY) (fun b hb=>by cases hb) (fun b hb=>by cases hb) (fun j u b4=>by rcases j with _|_|_|_|_|j<;>simp[jv]at b4<;>subst b4<;>assumption) V V ?_;intro X Z E c9 xo _ _);refine o _ _ trivial ?_;clear o;have f1:=xo.size;have cc:=an.below xo V;have c6:=ar.below xo V;have ch:=b3.trans (rS.of (xo.mono V));have NJ:FM xs g A n c T E:=lT;clear j0 cx cy cz cS an ar b3 D3 aU b0 xo;refine ai ?_;refine rZ rfl rfl 0 rT (fun a3 o=> ?_);obtain⟨⟨a7,a9,aa,ab,ac⟩,a1⟩:=cc;go_wp2_with fail;refine o _ _ trivial ?_;clear o;refine sI ?_;have zC:rS (w.heap.size+1) E.heap.size E (E.setCell ⟨w.heap.size+1,3,none⟩ (.slice X (C+1) Z)):=(rS.refl _ _ _).setAt 3 _;have ct:S.heap.size<=(E.setCell ⟨w.heap.size+1,3,none⟩ (.slice X (C+1) Z)).heap.size:=by simp;omega
         have cs:FM xs g A n c T (E.setCell ⟨w.heap.size+1,3,none⟩ (.slice X (C+1) Z)):=lP;go_wp2_with fail;go_meet;exact⟨c6.off zC V V,ch.wM bd _,ct,cs,X,Z,⟨⟨by go_simp,by go_simp,by go_simp,by go_simp,by go_simp⟩,fun j=>by have:=a1 j;go_simp⟩,c9.off xc zC V (by simp[nS])⟩
        ·go_wp2_with fail;refine(dj.out bz af V dd).mono ?_;rintro e' y ⟨k,i,t,G,N,I,H,O,L,rfl,bk,RH,a4⟩;go_wp2_with fail;refine o _ _ trivial ?_;clear o;have gk:=a4.size;have b2:=ad.off a4 V V;have b6:=d5.off a4 V V;have bj:=cb.ZZ.off xc a4 V (by simp[nS]);have bp:=ci.trans (a4.mono V);clear af ad d5 cb dd ci a4;refine ai ?_;refine zB rfl rfl 0 rT (fun a3 o=> ?_) (fun a3 o=> ?_)
         ·have ak:=b2;obtain⟨⟨a7,a9,aa,ab,ac⟩,a1⟩:=ak;go_wp2_with fail;refine o _ _ trivial ?_;clear o;clear a7 a9 aa ab ac a1;refine ai ?_;refine rZ rfl rfl 0 rT (fun a3 o=> ?_);go_wp2_with fail;refine o _ _ trivial ?_;clear o;have tm:=(acQ y).al rT (jC k i t G N I H O L);have c4:=vC.new y k i t G N I H O L y.heap.size rfl;have an:=b2.below tm V;have ar:=b6.below tm V;have aU:=bj.below xc tm;have b3:=bp.trans (rS.of (tm.mono V));have b0:=xc.keep (Y:=fun b=>(nS b\/bz.heap.size<=b)/\b<(y.alloc (jC k i t G N I H O L)).heap.size) bk (fun q cr=>tm.cell cr.2) (fun b hb=>⟨.inr hb.1,by simp;omega⟩);have D3:FM xs g A n c T (y.alloc (jC k i t G N I H O L)):=lU;have f0:y.heap.size<(y.alloc (jC k i t G N I H O L)).heap.size:=by simp
          clear tm b2 b6 bj bp bk RH;generalize(y.alloc (jC k i t G N I H O L))=g5 at*;generalize y.heap.size=q at*;refine ai ?_;refine rZ rfl rfl 0 rT (fun a3 o=> ?_);obtain⟨⟨j0,cx,cy,cz,cS⟩,_⟩:=c4;go_wp2_with(at_builtin;refine tX (z:=jA 0 0 ⟨#[]⟩ none 0 0 none 0 0) (bytes:=80) rfl tM yt rfl V V xc rfl rfl aU b0 V (fun b hb=>dY) (fun b hb=>by cases hb) (fun b hb=>by cases hb) (fun j u b4=>by rcases j with _|_|_|_|_|j<;>simp[jv]at b4<;>subst b4<;>assumption) V V ?_;intro X Z E c9 xo _ _);refine o _ _ trivial ?_;clear o;have f1:=xo.size;have cc:=an.below xo V;have c6:=ar.below xo V;have ch:=b3.trans (rS.of (xo.mono V));have NJ:FM xs g A n c T E:=lT;clear j0 cx cy cz cS an ar b3 D3 aU b0 xo;refine ai ?_;refine rZ rfl rfl 0 rT (fun a3 o=> ?_);obtain⟨⟨a7,a9,aa,ab,ac⟩,a1⟩:=cc;go_wp2_with fail;refine o _ _ trivial ?_;clear o;refine sI ?_;have zC:rS (w.heap.size+1) E.heap.size E (E.setCell ⟨w.heap.size+1,3,none⟩ (.slice X (C+1) Z)):=(rS.refl _ _ _).setAt 3 _;have ct:S.heap.size<=(E.setCell ⟨w.heap.size+1,3,none⟩ (.slice X (C+1) Z)).heap.size:=by simp;omega
          have cs:FM xs g A n c T (E.setCell ⟨w.heap.size+1,3,none⟩ (.slice X (C+1) Z)):=lP;go_wp2_with fail;go_meet;exact⟨c6.off zC V V,ch.wM bd _,ct,cs,X,Z,⟨⟨by go_simp,by go_simp,by go_simp,by go_simp,by go_simp⟩,fun j=>by have:=a1 j;go_simp⟩,c9.off xc zC V (by simp[nS])⟩
         ·go_wp2_with fail;refine o _ _ trivial ?_;clear o;have tm:=(acQ y).al rT (jC k i t G N I H O L);have c4:=vC.new y k i t G N I H O L y.heap.size rfl;have an:=b2.below tm V;have ar:=b6.below tm V;have aU:=bj.below xc tm;have b3:=bp.trans (rS.of (tm.mono V));have b0:=xc.keep (Y:=fun b=>(nS b\/bz.heap.size<=b)/\b<(y.alloc (jC k i t G N I H O L)).heap.size) bk (fun q cr=>tm.cell cr.2) (fun b hb=>⟨.inr hb.1,by simp;omega⟩);have D3:FM xs g A n c T (y.alloc (jC k i t G N I H O L)):=lU;have f0:y.heap.size<(y.alloc (jC k i t G N I H O L)).heap.size:=by simp
          clear tm b2 b6 bj bp bk RH;generalize(y.alloc (jC k i t G N I H O L))=g5 at*;generalize y.heap.size=q at*;refine ai ?_;refine rZ rfl rfl 0 rT (fun a3 o=> ?_);have ak:=an;obtain⟨⟨a7,a9,aa,ab,ac⟩,a1⟩:=ak;go_wp2_with fail;refine o _ _ trivial ?_;clear o;clear a7 a9 aa ab ac a1;refine ai ?_;refine rZ rfl rfl 0 rT (fun a3 o=> ?_);obtain⟨⟨j0,cx,cy,cz,cS⟩,_⟩:=c4;go_wp2_with(at_builtin;refine tX (z:=jA 0 0 ⟨#[]⟩ none 0 0 none 0 0) (bytes:=80) rfl tM yt rfl V V xc rfl rfl aU b0 V (fun b hb=>dY) (fun b hb=>by cases hb) (fun b hb=>by cases hb) (fun j u b4=>by rcases j with _|_|_|_|_|j<;>simp[jv]at b4<;>subst b4<;>assumption) V V ?_;intro X Z E c9 xo _ _);refine o _ _ trivial ?_;clear o;have f1:=xo.size;have cc:=an.below xo V;have c6:=ar.below xo V;have ch:=b3.trans (rS.of (xo.mono V));have NJ:FM xs g A n c T E:=lT;clear j0 cx cy cz cS an ar b3 D3 aU b0 xo;refine ai ?_;refine rZ rfl rfl 0 rT (fun a3 o=> ?_);obtain⟨⟨a7,a9,aa,ab,ac⟩,a1⟩:=cc;go_wp2_with fail;refine o _ _ trivial ?_;clear o;refine sI ?_;have zC:rS (w.heap.size+1) E.heap.size E (E.setCell ⟨w.heap.size+1,3,none⟩ (.slice X (C+1) Z)):=(rS.refl _ _ _).setAt 3 _;have ct:S.heap.size<=(E.setCell ⟨w.heap.size+1,3,none⟩ (.slice X (C+1) Z)).heap.size:=by simp;omega
          have cs:FM xs g A n c T (E.setCell ⟨w.heap.size+1,3,none⟩ (.slice X (C+1) Z)):=lP;go_wp2_with fail;go_meet;exact⟨c6.off zC V V,ch.wM bd _,ct,cs,X,Z,⟨⟨by go_simp,by go_simp,by go_simp,by go_simp,by go_simp⟩,fun j=>by have:=a1 j;go_simp⟩,c9.off xc zC V (by simp[nS])⟩
     case
      rest=>
       obtain⟨dp,cp,hh,⟨a8,v8,h8,dr,ds⟩,U,c2,e1,dN⟩:=hcut;have gz:=cp.size;clear HP di d4 ad d8 AE e7 f3 dj;have e5:=d9.off cp V b9;cases T with
       |error e=>
        have W:some (Except.error e)=some R:=d2.out;injection W with W;subst W;have he:=ds e rfl;simp only[rE]at h8;clear d2 dr ds;go_wp2_with fail;refine(Hm g A n c a8 e v8 wc h8 he).mono ?_;rintro e' bs ⟨rfl,rfl⟩;go_wp2_with fail;refine(vD g A n c a8 e 20 v8 wc h8).mono ?_;rintro e' g4 ⟨rfl,a6,a0⟩;rw[ru he]at a6;have f2:=a0.size;have c5:=dp.off a0 V V;have b1:=e1.off a0 V V;have cj:=cp.trans (a0.mono V);go_wp2_with fail;go_roundw;case rel=>first|exact⟨c5,cj,V,0,.inr ⟨rfl,v.kind,e,a8,v8,U,C+1,c2,rfl,rfl,cn,a6,b1⟩⟩
        case measure=>rw[c3.out];exact tQ (least_le (m:=0) (.inr ⟨rfl,v.kind,e,a8,v8,U,C+1,c2,rfl,rfl,cn,a6,b1⟩)) V
       |ok p=>
        obtain⟨j,a'⟩:=p;obtain⟨rfl,gb⟩:=dr j a' rfl;simp only[rE,rJ]at h8 dN;clear ds dr;have D:=d2.out;simp only at D;clear d2;have dK:=fun v h=>ux (xs:=xs) (a:=a8) (wd:=v) gb h
        have dI:=fun e h=>vU (xs:=xs) (a:=a8) (e:=e) h
        have er:uY uf 60 5 nS nS wc S.heap.size U (C+1) c2 (l++[j]):=uY.ofO (by rw[wO];exact dN);clear dN;go_wp2_with fail;refine(x7 g A n c B a8 xs v8 wc h8 V e5 b9 e2 e3 V).mono ?_;rintro e' bs ⟨rfl,h9,be⟩;have hg:=be.size;have c7:=dp.off be V V;have cf:=e1.off be V V;have dM:=er.off uG be V fF;have cl:=cp.trans (be.mono V);have et:=e5.off be V b9;clear h8 dp e1 er cp e5 be;cases hT:se xs a8 with
        |error b7=>
         rw[hT]at D h9;simp only[sb]at D;subst D;have he:=dI b7 hT;simp only[Ci,Jf,FJ,Kr]at h9|-;clear dK dI hT;go_wp2_with fail;refine(vD g A n c a8 b7 20 v8 bs h9).mono ?_;rintro e' g4 ⟨rfl,a6,a0⟩;rw[ru he]at a6;have f2:=a0.size;have c5:=c7.off a0 V V;have b1:=cf.off a0 V V;have cj:=cl.trans (a0.mono V);go_wp2_with fail;go_roundw;case rel=>first|exact⟨c5,cj,V,0,.inr ⟨rfl,v.kind,b7,a8,v8,U,C+1,c2,rfl,rfl,cn,a6,b1⟩⟩
         case measure=>rw[c3.out];exact tQ (least_le (m:=0) (.inr ⟨rfl,v.kind,b7,a8,v8,U,C+1,c2,rfl,rfl,cn,a6,b1⟩)) V
        |ok F=>
         rw[hT]at D h9;have hk:=dK F hT;simp only at D;simp only[Ci,Jf,FJ,Kr]at h9|-;clear dK dI hT;by_cases d0:F.kind=4
         ·rw[rv d0,sb]at D;subst D;rw[d0];have ak:=cf;have e6:=c7;obtain⟨⟨a7,a9,aa,ab,ac⟩,a1⟩:=ak;obtain⟨⟨u0,fn,fs,g0,g1⟩,g2⟩:=e6;go_wp2_with fail;have BQ:rS w.heap.size bs.heap.size bs (((((bs.setCell ⟨w.heap.size,0,none⟩ (.int .i64 5)).setCell ⟨w.heap.size,1,none⟩ (.int .i64 0)).setCell ⟨w.heap.size,2,none⟩ (.string ⟨#[]⟩)).setCell ⟨w.heap.size,3,none⟩ (.slice U (C+1) c2)).setCell ⟨w.heap.size,4,none⟩ (.slice none 0 0)):=((((((rS.refl _ _ _).setAt 0 _).setAt 1 _).setAt 2 _).setAt 3 _).setAt 4 _);refine rV (uD (k:=5) (i:=0) (t:=⟨#[]⟩) (A:=U) (n:=C+1) (c:=c2) (A':=none) (n':=0) (c':=0) rfl rfl ⟨bf,bf,bf,bf,bf⟩) rfl ?_;refine⟨5,0,⟨#[]⟩,U,C+1,c2,none,0,0,rfl,Ti (dM.off uG BQ V fF) V V,?_,?_⟩;·exact⟨F.next,F,h9.off BQ V V,fun j a' h=>l9,fun e h=>bX⟩
          ·repeat' (first|with_reducible exact cl|with_reducible refine rS.wM ?_ bd _)
         ·rw[ru d0]at D;have gn:(F.kind==4)=false:=rr.2 d0;by_cases df:F.kind=6
          ·rw[rv df]at D;have eb:=rq D;clear D d0 gn;rw[df];go_wp2_with fail;refine(x7 g A n c B F.next xs F bs h9 V et b9 e2 e3 V).mono ?_;rintro e' go ⟨rfl,b8,bv⟩;have hd:=bv.size;have ei:=c7.off bv V V;have e0:=cf.off bv V V;have gf:=dM.off uG bv V fF;have es:=cl.trans (bv.mono V);clear h9 c7 cf dM cl et bv;go_wp2_with fail;have D:=eb.out;clear eb;cases hT:se xs F.next with
           |error b7=>
            rw[hT]at D b8;simp only[sb]at D;subst D;have he:=vU hT;simp only[Ci,Jf,FJ,Kr]at b8|-;go_roundw;case rel=>first|exact⟨ei,es,V,0,.inr ⟨rfl,0,b7,F.next,F,U,C+1,c2,rfl,rfl,cn,b8,e0⟩⟩
            case measure=>rw[c3.out];exact tQ (least_le (m:=0) (.inr ⟨rfl,0,b7,F.next,F,U,C+1,c2,rfl,rfl,cn,b8,e0⟩)) V
           |ok g3=>
            rw[hT]at D b8;simp only at D;have hj:=ux V hT;simp only[Ci,Jf,FJ,Kr]at b8|-;have c8:Y6 xs g A n c a5 (w.heap.size+1) S.heap.size f R m (.int .i64 g3.kind) go:=.inl ⟨g3,l++[j],U,C+1,c2,rfl,b8,e0,gf,D,V,by simp;omega⟩;go_roundw;case rel=>exact⟨ei,es,V,m,c8⟩
            case measure=>rw[c3.out];exact tQ (least_le c8) V
          ·rw[ru df,sb]at D;subst D;have hl:(F.kind==6)=false:=rr.2 df;go_wp2_with fail;refine(vD g A n c F.next 0 20 F bs h9).mono ?_;rintro e' g4 ⟨rfl,a6,a0⟩;rw[rv rfl]at a6;have f2:=a0.size;have c5:=c7.off a0 V V;have b1:=cf.off a0 V V;have cj:=cl.trans (a0.mono V);go_wp2_with fail;go_roundw;case rel=>first|exact⟨c5,cj,V,0,.inr ⟨rfl,v.kind,20,F.next,F,U,C+1,c2,rfl,rfl,cn,a6,b1⟩⟩
           case measure=>rw[c3.out];exact tQ (least_le (m:=0) (.inr ⟨rfl,v.kind,20,F.next,F,U,C+1,c2,rfl,rfl,cn,a6,b1⟩)) V
    ·have gA:=AE.size;have gs:(e==0)=false:=rr.2 he;have HP:=rq af;obtain⟨⟨f7,f8,f9,fb,ff,fi,fj,fl⟩,fm⟩:=af;have ak:=ad;have e6:=d4;obtain⟨⟨a7,a9,aa,ab,ac⟩,a1⟩:=ak;obtain⟨⟨u0,fn,fs,g0,g1⟩,g2⟩:=e6;go_wp2_with fail;have BQ:rS w.heap.size wr.heap.size wr (((((wr.setCell ⟨w.heap.size,0,none⟩ (.int .i64 5)).setCell ⟨w.heap.size,1,none⟩ (.int .i64 0)).setCell ⟨w.heap.size,2,none⟩ (.string ⟨#[]⟩)).setCell ⟨w.heap.size,3,none⟩ (.slice d1 C c1)).setCell ⟨w.heap.size,4,none⟩ (.slice none 0 0)):=((((((rS.refl _ _ _).setAt 0 _).setAt 1 _).setAt 2 _).setAt 3 _).setAt 4 _);refine rV (uD (k:=5) (i:=0) (t:=⟨#[]⟩) (A:=d1) (n:=C) (c:=c1) (A':=none) (n':=0) (c':=0) rfl rfl ⟨bf,bf,bf,bf,bf⟩) rfl ?_;refine⟨5,0,⟨#[]⟩,d1,C,c1,none,0,0,rfl,⟨_,_,_,_,_,_,_,_,_,rfl⟩,?_,?_⟩;·exact nq
     ·repeat' (first|with_reducible exact AE|with_reducible refine rS.wM ?_ bd _)
def HO(g:Nat)(A:acN)(n c a y:Nat)(e:Int)(xs:acM)(wd:Wd)(w:World)(D:Ck w g A n c a e wd)(he:e≠0)(z:g<w.heap.size):Calls Tryz.prog 51 #[.pointer (some ⟨g,0,none⟩),.int .i64 0,.int .i64 (y:Int)] w (DL xs g A n c (.error e) w):=by go_enter Ap,zg;go_upto_region 1 with fail;have d:=(acQ w).al rT (jZ);have q:=D.below d z;have m:=vC.new w 0 0 ⟨#[]⟩ none 0 0 none 0 0 w.heap.size rfl;have F:w.heap.size<(w.alloc (jZ)).heap.size:=bi;have p:rS g w.heap.size w (w.alloc (jZ)):=rS.of d;clear d;generalize w.alloc (jZ)=w1 at*;go_wp2_with fail;refine(vD g A n c a e 20 wd w1 q).mono ?_;rintro e' l ⟨rfl,o,b⟩;rw[ru he]at o;have G:=b.size;have v:=m.off b V V;have LG:=p.trans (b.mono V);clear m p b;obtain⟨⟨u0,H,I,K,L⟩,M⟩:=v;go_wp2_with fail;have C:rS w.heap.size l.heap.size l (((((l.setCell ⟨w.heap.size,0,none⟩ (.int .i64 0)).setCell ⟨w.heap.size,1,none⟩ (.int .i64 0)).setCell ⟨w.heap.size,2,none⟩ (.string ⟨#[]⟩)).setCell ⟨w.heap.size,3,none⟩ (.slice none 0 0)).setCell ⟨w.heap.size,4,none⟩ (.slice none 0 0)):=(((((rS.refl _ _ _).setAt 0 _).setAt 1 _).setAt 2 _).setAt 3 _).setAt 4 _;refine rV (uD (k:=0) (i:=0) (t:=⟨#[]⟩) (A:=none) (n:=0) (c:=0) (A':=none) (n':=0) (c':=0) rfl rfl ⟨bf,bf,bf,bf,bf⟩) rfl ?_;refine⟨0,0,⟨#[]⟩,none,0,0,none,0,0,rfl,⟨_,_,_,_,_,_,_,_,_,rfl⟩,⟨a,wd,o.off C V V,(fun j E h=>bX),(fun e h=>iw)⟩,?_⟩;exact lO
def DE(xs:acM)(a:Nat)(e:Int)(wd:Wd):Int×Nat×Int×Wd:=if e=0 then((Ci (se xs a)).kind,Jf a (se xs a),FJ (se xs a),Kr wd (se xs a))else(0,a,e,wd)
def I8(g:Nat)(A:acN)(n c B a:Nat)(e:Int)(xs:acM)(wd:Wd)(w:World)(d:Ck w g A n c a e wd)(l:g<w.heap.size)(p:Rd w B A n xs)(h:B<=g)(m:n<=100000000)(o:n<=c)(j:e=0->a<=n):Calls Tryz.prog 52 #[.pointer (some ⟨g,0,none⟩)] w fun e' w'=>e'=.returned (.int .i64 (DE xs a e wd).1)/\Ck w' g A n c (DE xs a e wd).2.1 (DE xs a e wd).2.2.1 (DE xs a e wd).2.2.2/\rS g w.heap.size w w':=by
 unfold DE;by_cases b:e=0;·subst b;simp only[rv];exact x7 g A n c B a xs wd w d l p h m o (j rfl)
 ·simp only[ru b];refine(Hm g A n c a e wd w d b).mono ?_;rintro e' w' ⟨rfl,rfl⟩;exact⟨rfl,d,rS.refl _ _ _⟩
def Dh(xs:acM)(a:Nat)(e:Int)(wd:Wd)(k:Int):Nat×Int×Wd:=((DE xs a e wd).2.1,if(DE xs a e wd).1=k then(DE xs a e wd).2.2.1 else if(DE xs a e wd).2.2.1=0 then 20 else(DE xs a e wd).2.2.1,(DE xs a e wd).2.2.2)
def MB(g:Nat)(A:acN)(n c B a:Nat)(e k:Int)(xs:acM)(wd:Wd)(w:World)(M:Ck w g A n c a e wd)(G:g<w.heap.size)(K:Rd w B A n xs)(D:B<=g)(H:n<=100000000)(I:n<=c)(E:e=0->a<=n):Calls Tryz.prog 53 #[.pointer (some ⟨g,0,none⟩),.int .i64 k] w fun e' w'=>e'=.returned (.tuple #[])/\Ck w' g A n c (Dh xs a e wd k).1 (Dh xs a e wd k).2.1 (Dh xs a e wd k).2.2/\rS g w.heap.size w w':=by
 unfold Dh;have m:=I8 g A n c B a e xs wd w M G K D H I E;generalize DE xs a e wd=C at*;obtain⟨tk,N,te,O⟩:=C;simp only at m|-;have z:=rq m;clear m;obtain⟨o,j⟩:∃o,o=if tk=k then te else if te=0 then 20 else te:=⟨_,rfl⟩;rw[<-j];have b:=rq j;clear j;go_enter Tryz.func53,Tryz.ntmps53;go_wp2_with fail;refine z.out.mono ?_;rintro e' P ⟨rfl,p,l⟩;have L:=l.size;by_cases d:tk=k;·have h:=b.out;rw[rv d]at h;subst d h;clear b;go_wp2_with fail;refine tY (tA rfl _ _ _) rfl ?_;exact⟨rfl,p,l⟩
 ·have h:=b.out;rw[ru d]at h;have v:=rq h;clear h b;have Q:(tk==k)=false:=rr.2 d;go_wp2_with fail;refine(vD g A n c N te 20 O P p).mono ?_;rintro e' R ⟨rfl,q,F⟩;have y:=rq q;clear q;go_wp2_with fail;refine tY (tA rfl _ _ _) rfl ?_;exact⟨rfl,by rw[v.out];exact y.out,l.trans (F.mono L)⟩
