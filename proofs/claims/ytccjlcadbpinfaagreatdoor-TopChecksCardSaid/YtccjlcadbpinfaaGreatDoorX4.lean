import Derived.Test.YtccjlcadbpinfaaGreatDoorX3
import Derived.Lib.ConvBytes
set_option linter.all false
set_option maxRecDepth 100000
set_option maxHeartbeats 8000000
namespace Go.Proofs.YtccjlcadbpinfaaGreatDoor.Tp
open ChangeShapes WideShapes ChangeAt RowKit
open Num Mem Can
def Sw(t:afs)(w:World):∃c w',(convert 9 22 (.string ⟨t.toArray⟩)).run Tryz.prog w=.ok (.slice (some ⟨w.heap.size,0,none⟩) t.length c) w'/\t.length<=c/\Rd w' (w.heap.size+1) (some ⟨w.heap.size,0,none⟩) t.length t/\afv w w'/\w'.heap.size=w.heap.size+1:=by
 refine⟨grownCap w t.length 0 5,Lib.bytesWorld w 5 ⟨t.toArray⟩,by have h:=Lib.run_convert_string_bytes (P:=Tryz.prog) w 9 22 5 ⟨t.toArray⟩ xV tP Gb;rw[vj]at h;exact h,?_,⟨rfl,fun _=>⟨w.heap.size,0,rfl,V,fun j x b=> ?_⟩⟩,⟨rfl,rfl,rfl,?_,fun k e=>Lib.bytesWorld_at_old w _ _ k e⟩,Lib.bytesWorld_size w _ _⟩;·have:=grownCap_ge w (ByteArray.mk t.toArray).size 0 5;rw[vj]at this;exact this
 ·obtain⟨d,b⟩:=rQ.1 b;have:=Lib.bytesWorld_cell w 5 ⟨t.toArray⟩ j (by rw[vj];exact d);rw[tq,this];simp[d,b,bc]
 ·rw[Lib.bytesWorld_size];omega
section
variable{ops:Array Oper}{Q:Exit->Act->World->Prop}{rest:List Oper}{a:Act}{w:World}
def Ao{b:Option Tmp}{x:Operand}{ty:TypeId}{g:String}{d:Array Edge}{e:Option (Nat×Bool)}(v:Region.wanted ⟨b,.convert 9 22 x,ty,g,d,e⟩ (yielded ops a.tmps)=true){t:afs}(y:a.eval x=.string ⟨t.toArray⟩)(h:∀c w',t.length<=c->Rd w' (w.heap.size+1) (some ⟨w.heap.size,0,none⟩) t.length t->afv w w'->w'.heap.size=w.heap.size+1->wpList Tryz.prog ops Q rest (a.put b (.slice (some ⟨w.heap.size,0,none⟩) t.length c)) w'):wpList Tryz.prog ops Q (⟨b,.convert 9 22 x,ty,g,d,e⟩::rest) a w:=by
 refine tG v fun K p=> ?_
 obtain⟨c,w',q,j,l,m,o⟩:=Sw t w;unfold Oper.wp execOp;simp only[uJ,vR,ua,y,q];exact p _ _ (h c w' j l m o)
end
def xl.off{w w':World}{g B x:Nat}{A A':aft}{n c m d:Nat}{a e:Int}(h:xl w g A n c a e A' m d)(hb:sa x B w w')(b:g<B)(j:g≠x):xl w' g A n c a e A' m d:=⟨⟨(hb.cell b j).trans h.1.1,(hb.cell b j).trans h.1.2.1,(hb.cell b j).trans h.1.2.2.1,(hb.cell b j).trans h.1.2.2.2⟩,(hb.frozen b j).trans h.2.1,(hb.frozen b j).trans h.2.2.1,(hb.frozen b j).trans h.2.2.2⟩
def J5(w:World)(g:Nat)(k n:Int)(t:afs)(a b:Int):Prop:=Q2 w g k n t a b/\∀j,w.frozen? (rN g j)=false
def J5.below{w w':World}{g B:Nat}{k n a b:Int}{t:afs}(h:J5 w g k n t a b)(hb:Below B w w')(d:g<B):J5 w' g k n t a b:=⟨⟨(hb.cell d).trans h.1.1,(hb.cell d).trans h.1.2.1,(hb.cell d).trans h.1.2.2.1,(hb.cell d).trans h.1.2.2.2.1,(hb.cell d).trans h.1.2.2.2.2⟩,fun j=>(hb.frozen d).trans (h.2 j)⟩
def J5.off{w w':World}{g B x:Nat}{k n a b:Int}{t:afs}(h:J5 w g k n t a b)(hb:sa x B w w')(d:g<B)(e:g≠x):J5 w' g k n t a b:=⟨⟨(hb.cell d e).trans h.1.1,(hb.cell d e).trans h.1.2.1,(hb.cell d e).trans h.1.2.2.1,(hb.cell d e).trans h.1.2.2.2.1,(hb.cell d e).trans h.1.2.2.2.2⟩,fun j=>(hb.frozen d e).trans (h.2 j)⟩
def J5.new(w:World)(k n:Int)(t:afs)(a b:Int)(g:Nat)(hg:g=w.heap.size):J5 (w.alloc (wC k n ⟨t.toArray⟩ a b)) g k n t a b:=oe
def lets:List (afs×Int×Int):=[([116,114,117,101],7,1),([102,97,108,115,101],7,0),([110,117,108,108],8,0)]
def Fk(l:afs)(a:Nat):List (afs×Int×Int)->Int×Int×Nat
 | []=>(0,0,a)
 |(p,k,n)::r=>if Lib.hasPrefix l p=true then(k,n,a+p.length)else Fk l a r
def UX(xs:afs)(a:Nat):zN xs a=Fk (xs.drop a) a (lets.drop 0):=rfl
def SL(g:Nat)(A A':aft)(n c m d B a:Nat)(xs:afs)(w:World)(dp:xl w g A n c a 0 A' m d)(el:g<w.heap.size)(a8:Rd w B A n xs)(ei:B<=g)(fn:n<=100000000)(er:n<=c)(f9:a<=n)(di:Lib.indexByte xI (pk xs a)= -1)(cy:pk xs a≠34)(cz:pk xs a≠45)(z:vS (pk xs a)=false):Calls Tryz.prog 153 #[sg g,.int .u8 ((pk xs a).toNat:Int)] w fun e' w'=>e'=.returned (Tc (zN xs a).1 (zN xs a).2.1 [] 0 0)/\xl w' g A n c (zN xs a).2.2 (Jx xs a) A' m d/\Below g w w':=by
 have hq:w.heap.size≠g:=V;obtain⟨R,a5⟩:=sW (zN xs a);obtain⟨bx,o⟩:=sW (Jx xs a);have cA:bx=if R.1=0\/xd (pk xs R.2.2)=true then 20 else 0:=by rw[o,a5];rfl
 rw[<-a5,<-o];have bz:=rz cA;have c3:=rz (a5.trans (UX xs a));clear o cA a5;have b9:=fun w=>Tryz.strings_IndexByte ⟨xI.toArray⟩ ((pk xs a).toNat:Int) w
 have d2:((((pk xs a).toNat:Nat):Int)).toNat.toUInt8=pk xs a:=bA;simp only[d2,di]at b9;have d4:∀w,Calls Tryz.prog 152 #[.string ⟨#[123,125,91,93,58,44]⟩,.int .u8 ((pk xs a).toNat:Int)] w fun e w'=>e=.returned (.int .i64 (-1))/\w'=w:=fun w=>b9 w
 have bj:=fun w1=>zi (pk xs a) w1
 rw[z]at bj;have g4:(((pk xs a).toNat:Int)==34)=false:=rA.2 (fun h=>cy (tU.1 (by rw[show(pk xs a).toNat=34 from V];rfl)));have g5:(((pk xs a).toNat:Int)==45)=false:=rA.2 (fun h=>cz (tU.1 (by rw[show(pk xs a).toNat=45 from V];rfl)));have dr:∀w,(Instr.index 265 (.agg #[.string ⟨#[116,114,117,101]⟩,.int .i64 7,.int .i64 1,.string ⟨#[102,97,108,115,101]⟩,.int .i64 7,.int .i64 0,.string ⟨#[110,117,108,108]⟩,.int .i64 8,.int .i64 0]) (.int .i64 0)).run Tryz.prog w=.ok (.agg #[.string ⟨#[116,114,117,101]⟩,.int .i64 7,.int .i64 1]) w:=fun _=>bm
 have ds:∀w,(Instr.index 265 (.agg #[.string ⟨#[116,114,117,101]⟩,.int .i64 7,.int .i64 1,.string ⟨#[102,97,108,115,101]⟩,.int .i64 7,.int .i64 0,.string ⟨#[110,117,108,108]⟩,.int .i64 8,.int .i64 0]) (.int .i64 1)).run Tryz.prog w=.ok (.agg #[.string ⟨#[102,97,108,115,101]⟩,.int .i64 7,.int .i64 0]) w:=fun _=>bm
 have dx:∀w,(Instr.index 265 (.agg #[.string ⟨#[116,114,117,101]⟩,.int .i64 7,.int .i64 1,.string ⟨#[102,97,108,115,101]⟩,.int .i64 7,.int .i64 0,.string ⟨#[110,117,108,108]⟩,.int .i64 8,.int .i64 0]) (.int .i64 2)).run Tryz.prog w=.ok (.agg #[.string ⟨#[110,117,108,108]⟩,.int .i64 8,.int .i64 0]) w:=fun _=>bm
 clear b9 d2 di cy cz z;have ea:=rz dp;clear dp;have fl:=a8.len;generalize(((pk xs a).toNat:Nat):Int)=f7 at*;go_enter GX,EV;go_wp2_with fail;go_step3;go_wp2_with fail;refine tZ (d4 _) ?_;clear d4;go_wp2_with fail;refine tZ (bj _) ?_;clear bj;go_wp2_with fail;go_step3;go_wp2_with fail;have br:=ea.out.below ((((afw w).al rV (wZ)).alloc bA (wZ))) el;have cf:=(J5.new w 0 0 [] 0 0 w.heap.size rfl).below (xn.alloc rV (wZ)) bA;have c6:=J5.new (w.alloc (wZ)) 0 0 [] 0 0 (w.heap.size+1) bA;have cR:=((afw w).al rV (wZ)).alloc bA (wZ);have es:w.heap.size+1<((w.alloc (wZ)).alloc (wZ)).heap.size:=bA;generalize(w.alloc _).alloc _=g6 at*;refine sG (MB _) fun f2 W=> ?_
 have bs:=br.below W V;have ch:=cf.below W V;have c7:=c6.below W V;have X:=cR.sY rV W;have dj:w.heap.size+1<f2.heap.size:=by have:=W.size;omega
 clear cR W br cf c6 es;go_wp2_with fail;go_loopw [48] (fun s wr=>∃j:Nat,s=.int .i64 j/\j<=3/\R=Fk (xs.drop a) a (lets.drop j)/\xl wr g A n c a 0 A' m d/\J5 wr w.heap.size 0 0 [] 0 0/\J5 wr (w.heap.size+1) 0 0 [] 0 0/\afv w wr/\w.heap.size+1<wr.heap.size) (fun s _=>3-(intOf s).toNat);case atStart=>exact⟨0,rfl,V,c3.out,bs,ch,c7,X,dj⟩
 case
  round=>
   obtain⟨j,rfl,fi,E,az,b3,a4,a6,g2⟩:=hrel;have S:=rz E;clear E c3 bs ch c7 X dj;rcases(show j<3\/j=3 from V)with fj|rfl
   ·obtain⟨y,k,v,q,bd,ff,d3,ft,em⟩:∃(y:afs)(k v:Int)(q:Nat),y.length=q/\(∀w,(Instr.index 265 (.agg #[.string ⟨#[116,114,117,101]⟩,.int .i64 7,.int .i64 1,.string ⟨#[102,97,108,115,101]⟩,.int .i64 7,.int .i64 0,.string ⟨#[110,117,108,108]⟩,.int .i64 8,.int .i64 0]) (.int .i64 (j:Int))).run Tryz.prog w=.ok (.agg #[.string ⟨y.toArray⟩,.int .i64 k,.int .i64 v]) w)/\Fk (xs.drop a) a (lets.drop j)=(if Lib.hasPrefix (xs.drop a) y=true then(k,v,a+q)else Fk (xs.drop a) a (lets.drop (j+1)))/\q<=5/\k≠0:=by
     rcases(show j=0\/j=1\/j=2 from V)with rfl|rfl|rfl;·exact⟨_,_,_,_,rfl,dr,rfl,bH,bH⟩
     ·exact⟨_,_,_,_,rfl,ds,rfl,bH,bH⟩
     ·exact⟨_,_,_,_,rfl,dx,rfl,bH,bH⟩
    clear dr ds dx;have g3:(⟨y.toArray⟩:ByteArray).size=q:=by rw[vj];exact bd
    have e9:=rz bd;have f8:decide ((j:Int)<3)=true:=by simp;omega
    clear bd;have E:R=if Lib.hasPrefix (xs.drop a) y=true then(k,v,a+q)else Fk (xs.drop a) a (lets.drop (j+1)):=S.out.trans d3;have a3:=rz E;clear S E d3;go_wp2_with fail;have T:=(afw wr).al rV (.cells #[.string ⟨y.toArray⟩,.int .i64 k,.int .i64 v] 264);have bv:=az.below T V;have ci:=b3.below T V;have c8:=a4.below T V;have X:=a6.sY rV T;have d8:=(a8.sV X V);have c0:(wr.alloc (.cells #[.string ⟨y.toArray⟩,.int .i64 k,.int .i64 v] 264)).cell? (rN wr.heap.size 0)=some (.string ⟨y.toArray⟩):=bi;have c1:(wr.alloc (.cells #[.string ⟨y.toArray⟩,.int .i64 k,.int .i64 v] 264)).cell? (rN wr.heap.size 1)=some (.int .i64 k):=bi;have c2:(wr.alloc (.cells #[.string ⟨y.toArray⟩,.int .i64 k,.int .i64 v] 264)).cell? (rN wr.heap.size 2)=some (.int .i64 v):=bi;have en:=T.l1;clear az b3 a4 a6 T;generalize(wr.alloc _)=g7 at*;generalize wr.heap.size=l at*;refine sT [0,1,2,3,4,5,6,7,8,9,10,11,12] [11,12] bm bm bA bm bt (fun wd z tj=> ?_);have a2:=rz (bv.below z V);have ck:=ci.below z V;have c9:=c8.below z V;have cW:=X.sY rV z;have df:=d8.sV z V;have b6:=z.cl c0 V;have b7:=z.cl c1 V;have b8:=z.cl c2 V;have fm:l<wd.heap.size:=V;clear bv ci c8 X d8 c0 c1 c2 en z tj;iterate 8 ((first|(refine tm rfl rfl rfl bo ?_)|(refine tB rfl rfl rfl ?_)|(refine tH rfl rfl rfl wd.heap.size V _ (by intro w' hb;obtain⟨⟨f3,f4,f5,f6⟩,_,_,_⟩:=xl.below a2.out hb V;clear hb;go_simp;first|done|with_reducible rfl) ?_));simp only[Act.put,rH,rC,rF])
    refine PT (p:=a) rfl rfl rfl rfl rfl df V er (fun e6 d9=> ?_);simp only[Act.put,rH,rC,rF];repeat((first|(refine tm rfl rfl rfl bo ?_)|(refine tB rfl rfl rfl ?_)|(refine tH rfl rfl rfl wd.heap.size V _ (by intro w' hb;obtain⟨⟨f3,f4,f5,f6⟩,_,_,_⟩:=xl.below a2.out hb V;obtain⟨g8,g9,ga⟩:=And.intro ((hb.cell (p:=rN l 0) V).trans b6) (And.intro ((hb.cell (p:=rN l 1) V).trans b7) ((hb.cell (p:=rN l 2) V).trans b8));clear hb;go_simp;first|done|with_reducible rfl) ?_));simp only[Act.put,rH,rC,rF])
    refine tc rfl rfl wd.heap.size V (fun b0 C=> ?_);go_wp2_with(refine Ao (t:=y) rfl rfl ?_;intro ef e5 fb dd D fS);refine C _ _ D ?_;clear C;have aU:=a2.out.below D V;have b5:=ck.below D V;have b2:=c9.below D V;have U:=cW.sY rV D;have cr:=D.cl b6 V;have cs:=D.cl b7 V;have cv:=D.cl b8 V;have d1:=Vq dd;have d0:=Vq (d9.sV D V);have bk:=Tryz.bytes_HasPrefix_all e6 (some ⟨wd.heap.size,0,none⟩) (n-a) (c-a) y.length ef _ _ e5 (by rw[tN,sU];omega) (by rw[tN]) V d0 d1;rw[CW,CW]at bk;have g1:wd.heap.size<=e5.heap.size:=V;clear a2 ck c9 cW df b6 b7 b8 d1 d0 d9 dd D;refine tc rfl rfl wd.heap.size rV (fun b0 C=> ?_);go_wp2_with fail;refine tZ bk ?_;go_wp2_with fail;refine C _ _ xn ?_;clear C bk;generalize ek:Lib.hasPrefix (xs.drop a) y=eb at*;refine ai ?_;refine sQ ?_;cases eb
    ·have S:=rz ((a3.out).trans (rB bA));clear a3;go_wp2_with fail;go_roundw;case rel=>exact⟨j+1,bA,V,S.out,aU,b5,b2,U,V⟩
     case measure=>simp[intOf]<;>omega
    ·have E:=(a3.out).trans (rG rfl);clear a3;have d6:=Qo ek;rw[sU]at d6;rw[e9.out]at d6;go_upto_region 15 with fail;refine sR (K:=vp (fun p=>p=⟨g,1,none⟩)) (vp.keeps _) (sA.of [0,1,2,4,5,6,3,7,8,9,10] .nil) [3,10] bm bm bF bm bt (fun we G fc=> ?_);have e8:=aU.below G V;have cp:=b5.below G V;have cb:=b2.below G V;have cZ:=U.sY rV G;have e0':=G.cl cr V;have ct:=G.cl cs V;have cx:=G.cl cv V;obtain⟨⟨ad,af,an,ar⟩,a9,aa,ab⟩:=e8;clear cr cs cv aU b5 b2 U G;refine aj ?_;refine se rfl rfl we.heap.size V (fun b0 C=> ?_);go_wp2_with fail;refine C _ _ (vp.refl _ _ _) ?_;clear C;refine aj ?_;refine se rfl rfl we.heap.size V (fun b0 C=> ?_);go_wp2_with fail;refine C _ _ (vp.setCell we _ rfl) ?_;clear C;refine sF ?_;have bw:xl (we.setCell ⟨g,1,none⟩ (.int .i64 ((a:Int)+q))) g A n c ((a+q:Nat):Int) 0 A' m d:=by rw[show((a+q:Nat):Int)=(a:Int)+q from V];exact lP
     have a0:sa g we.heap.size we (we.setCell ⟨g,1,none⟩ (.int .i64 ((a:Int)+q))):=(sa.refl _ _ _).setAt 1 _;have cj:=cp.off a0 V V;have ec:=cb.off a0 V V;have eg:=(a0.cell (p:=rN l 1) bl bl).trans ct;have eh:=(a0.cell (p:=rN l 2) bl bl).trans cx;have cS:=(show Below g w we from cZ.mono V).setAt 1 (.int .i64 ((a:Int)+q));have g0:w.heap.size+1<(we.setCell ⟨g,1,none⟩ (.int .i64 ((a:Int)+q))).heap.size:=by simp;omega
     clear ad af an ar a9 aa ab cp cb e0' ct cx cZ a0;generalize we.setCell _ _=Y at*;obtain⟨⟨H,I,L,M,N⟩,F⟩:=ec;go_upto_region 18 with fail;have a7:sa (w.heap.size+1) Y.heap.size Y (((((Y.setCell ⟨w.heap.size+1,0,none⟩ (.int .i64 k)).setCell ⟨w.heap.size+1,1,none⟩ (.int .i64 v)).setCell ⟨w.heap.size+1,2,none⟩ (.string ⟨#[]⟩)).setCell ⟨w.heap.size+1,3,none⟩ (.int .i64 0)).setCell ⟨w.heap.size+1,4,none⟩ (.int .i64 0)):=(((((sa.refl _ _ _).setAt 0 _).setAt 1 _).setAt 2 _).setAt 3 _).setAt 4 _;have bn:=bw.off a7 V V;have ed:=cj.off a7 V V;have c4:J5 (((((Y.setCell ⟨w.heap.size+1,0,none⟩ (.int .i64 k)).setCell ⟨w.heap.size+1,1,none⟩ (.int .i64 v)).setCell ⟨w.heap.size+1,2,none⟩ (.string ⟨#[]⟩)).setCell ⟨w.heap.size+1,3,none⟩ (.int .i64 0)).setCell ⟨w.heap.size+1,4,none⟩ (.int .i64 0)) (w.heap.size+1) k v [] 0 0:=⟨⟨bi,bi,bi,bi,bi⟩,fun j=>by have:=F j;go_simp⟩;have cE:=cS.trans (a7.below (B':=g) V V);have fx:w.heap.size+1<(((((Y.setCell ⟨w.heap.size+1,0,none⟩ (.int .i64 k)).setCell ⟨w.heap.size+1,1,none⟩ (.int .i64 v)).setCell ⟨w.heap.size+1,2,none⟩ (.string ⟨#[]⟩)).setCell ⟨w.heap.size+1,3,none⟩ (.int .i64 0)).setCell ⟨w.heap.size+1,4,none⟩ (.int .i64 0)).heap.size:=by simp;omega
     clear H I L M N F bw cj cS a7 eg eh;generalize(((((Y.setCell _ _).setCell _ _).setCell _ _).setCell _ _).setCell _ _)=et at*;have d7:=a8.sV cE V;have be:=c4;obtain⟨⟨H,I,L,M,N⟩,F⟩:=be;go_wp2_with fail;refine sG (uF g A A' n c m d B (a+q) 0 xs et bn V d7 ei V V) fun f0 Z=> ?_
     have fE:=Z.size;have o:bx=if xd (pk xs (a+q))=true then 20 else 0:=by rw[bz.out,E];simp[em]
     subst E;have bO:=rz o;clear o;have bp:=bn.below Z V;have cc:=ed.below Z V;have c5:=c4.below Z V;have U:=cE.sY V Z;have d5:=fun w1=>Br (pk xs (a+q)) w1
     generalize xd (pk xs (a+q))=e7 at*;clear H I L M N F;go_wp2_with fail;refine tZ (d5 _) ?_;clear d5;cases e7;·have o:=bO.out;rw[rB bA]at o;subst o;obtain⟨⟨ad,af,an,ar⟩,a9,aa,ab⟩:=bp;obtain⟨⟨H,I,L,M,N⟩,F⟩:=c5;obtain⟨⟨dz,e0,e1,e2,e3⟩,e4⟩:=cc;go_wp2_with fail;rw[CN];refine sc (Fq (k:=k) (n:=v) (t:=[]) (a:=0) (b:=0) rfl rfl ⟨bi,bi,bi,bi,bi⟩) rfl ⟨rfl,⟨⟨bi,bi,bi,bi⟩,bi,bi,bi⟩,?_⟩;repeat' (first|with_reducible exact U.mono V|with_reducible refine Below.setCell ?_ bl _)
     ·have o:=bO.out;rw[rG rfl]at o;subst o;go_wp2_with fail;refine sG (uO g A A' n c m d ((a+q:Nat):Int) 0 20 f0 bp V) fun f1 ⟨a1,O⟩=> ?_
      rw[rG rfl]at a1;have b4:=cc.off O V V;have b1:=c5.off O V V;have abI:=(show Below g w _ from U.mono V).trans (O.below (B':=g) V rV);obtain⟨⟨ad,af,an,ar⟩,a9,aa,ab⟩:=a1;obtain⟨⟨H,I,L,M,N⟩,F⟩:=b1;obtain⟨⟨dz,e0,e1,e2,e3⟩,e4⟩:=b4;go_wp2_with fail;rw[CN];refine sc (Fq (k:=k) (n:=v) (t:=[]) (a:=0) (b:=0) rfl rfl ⟨bi,bi,bi,bi,bi⟩) rfl ⟨rfl,⟨⟨bi,bi,bi,bi⟩,bi,bi,bi⟩,?_⟩;exact oh
   ·have E:R=(0,0,a):=S.out;clear S;go_upto_region 18 with fail;have d7:=a8.sV a6 V;have be:=a4;obtain⟨⟨H,I,L,M,N⟩,F⟩:=be;have o:=bz.out;subst E;rw[rG (.inl rfl)]at o;subst o;go_wp2_with fail;refine sG (uO g A A' n c m d ((a:Nat):Int) 0 20 wr az V) fun f1 ⟨a1,O⟩=> ?_
    rw[rG rfl]at a1;have b4:=b3.off O V V;have b1:=a4.off O V V;have abI:=(show Below g w _ from a6.mono V).trans (O.below (B':=g) V rV);obtain⟨⟨ad,af,an,ar⟩,a9,aa,ab⟩:=a1;obtain⟨⟨H,I,L,M,N⟩,F⟩:=b1;obtain⟨⟨dz,e0,e1,e2,e3⟩,e4⟩:=b4;go_wp2_with fail;rw[CN];refine sc (Fq (k:=0) (n:=0) (t:=[]) (a:=0) (b:=0) rfl rfl ⟨bi,bi,bi,bi,bi⟩) rfl ⟨rfl,⟨⟨bi,bi,bi,bi⟩,bi,bi,bi⟩,?_⟩;exact oh
end Go.Proofs.YtccjlcadbpinfaaGreatDoor.Tp
namespace Go.Proofs.YtccjlcadbpinfaaGreatDoor.Tp
open Num Mem Can
def xo(c:UInt8):Bool:=c==32||c==9||c==10||c==13
def wj(xs:afs)(a:Nat):Nat:=a+((xs.drop a).takeWhile xo).length
structure Wd where
 kind:Int
 int:Int
 text:afs
 at_:Nat
 next:Nat
def vG(xs:afs)(b:Nat):Int×Int×afs×Nat×Int:=if 0<=Lib.indexByte xI (pk xs b)then(1+Lib.indexByte xI (pk xs b),0,[],b+1,0)else if pk xs b=34 then(10,0,(D0 xs (xs.length+1-(b+1)) (b+1) []).1,(D0 xs (xs.length+1-(b+1)) (b+1) []).2.1,(D0 xs (xs.length+1-(b+1)) (b+1) []).2.2)else if pk xs b=45\/vS (pk xs b)=true then(9,RY xs b,[],Fl xs b,WL xs b)else((zN xs b).1,(zN xs b).2.1,[],(zN xs b).2.2,Jx xs b)
def sH(xs:afs)(a:Nat):Except Int Wd:=if wj xs a=xs.length then .ok ⟨11,0,[],xs.length,xs.length⟩else if(vG xs (wj xs a)).2.2.2.2=0 then .ok ⟨(vG xs (wj xs a)).1,(vG xs (wj xs a)).2.1,(vG xs (wj xs a)).2.2.1,wj xs a,(vG xs (wj xs a)).2.2.2.1⟩else .error (vG xs (wj xs a)).2.2.2.2
mutual
def wU(xs:afs):Nat->Wd->Nat->Option (Except Int (J×Nat))
 |0,_,_=>none
 |f+1,w,b=>if w.kind=8 then some (.ok (.mk 1 0 [] [] [],w.next))else if w.kind=7 then some (.ok (.mk 2 w.int [] [] [],w.next))else if w.kind=9 then some (.ok (.mk 3 w.int [] [] [],w.next))else if w.kind=10 then some (.ok (.mk 4 0 w.text [] [],w.next))else if w.kind=3 then(if b=32 then some (.error 21)else FR xs f w.next (b+1))else if w.kind=1 then(if b=32 then some (.error 21)else MK xs f w.next (b+1))else some (.error 20)
def FR(xs:afs):Nat->Nat->Nat->Option (Except Int (J×Nat))
 |0,_,_=>none
 |f+1,a,b=>
 match sH xs a with
 | .error e=>some (.error e)
 | .ok w=>if w.kind=4 then some (.ok (.mk 5 0 [] [] [],w.next))else C1 xs f w b []
def C1(xs:afs):Nat->Wd->Nat->List J->Option (Except Int (J×Nat))
 |0,_,_,_=>none
 |f+1,w,d,l=>
 match wU xs f w d with
 |none=>none
 |some (.error e)=>some (.error e)
 |some (.ok (j,a))=>
  match sH xs a with
  | .error e=>some (.error e)
  | .ok b=>if b.kind=4 then some (.ok (.mk 5 0 [] (l++[j]) [],b.next))else if b.kind=6 then(match sH xs b.next with| .error e=>some (.error e)| .ok g=>C1 xs f g d (l++[j]))else some (.error 20)
def MK(xs:afs):Nat->Nat->Nat->Option (Except Int (J×Nat))
 |0,_,_=>none
 |f+1,a,b=>
 match sH xs a with
 | .error e=>some (.error e)
 | .ok w=>if w.kind=2 then some (.ok (.mk 6 0 [] [] [],w.next))else Ae xs f w b [] []
def Ae(xs:afs):Nat->Wd->Nat->List J->List afs->Option (Except Int (J×Nat))
 |0,_,_,_,_=>none
 |f+1,w,d,l,ks=>
 if w.kind≠10 then some (.error 20)else if ks.contains w.text=true then some (.error 23)else match sH xs w.next with
 | .error e=>some (.error e)
 | .ok wc=>
  if wc.kind≠5 then some (.error 20)else match sH xs wc.next with
  | .error e=>some (.error e)
  | .ok h=>
   match wU xs f h d with
   |none=>none
   |some (.error e)=>some (.error e)
   |some (.ok (j,a))=>
    match sH xs a with
    | .error e=>some (.error e)
    | .ok b=>if b.kind=2 then some (.ok (.mk 6 0 [] (l++[j]) (ks++[w.text]),b.next))else if b.kind=6 then(match sH xs b.next with| .error e=>some (.error e)| .ok g=>Ae xs f g d (l++[j]) (ks++[w.text]))else some (.error 20)
end
def C6(xs:afs)(f:Nat):Option (Except Int J):=if 20000<xs.length then some (.error 3)else match sH xs 0 with
 | .error e=>some (.error e)
 | .ok w=>match wU xs f w 0 with
  |none=>none
  |some (.error e)=>some (.error e)
  |some (.ok (j,a))=>match sH xs a with
   | .error e=>some (.error e)
   | .ok b=>if b.kind=11 then some (.ok j)else some (.error 20)
end Go.Proofs.YtccjlcadbpinfaaGreatDoor.Tp
namespace Go.Proofs.YtccjlcadbpinfaaGreatDoor.Tp
open ChangeShapes WideShapes ChangeAt RowKit
open Num Mem Can
def Wv(g:Nat)(A:aft)(n c B a:Nat)(xs:afs)(w:World)(m:xl w g A n c a 0 none 0 0)(e:g<w.heap.size)(l:Rd w B A n xs)(o:B<=g)(j:n<=100000000)(p:n<=c)(y:a<n):Calls Tryz.prog 153 #[sg g,.int .u8 ((pk xs a).toNat:Int)] w fun e' w'=>e'=.returned (Tc (vG xs a).1 (vG xs a).2.1 (vG xs a).2.2.1 0 0)/\(∃q G v,xl w' g A n c ((vG xs a).2.2.2.1:Int) (vG xs a).2.2.2.2 q G v)/\Below g w w':=by
 have D:=l.len;unfold vG;rw[D];rcases Ye (pk xs a)with h|⟨i,h,C⟩
 ·have E:¬0<=Lib.indexByte xI (pk xs a):=V;simp only[rB E];by_cases d:pk xs a=34;·simp only[rG d];rw[d];exact PA g A n c B a xs w m e l o j p y
  ·simp only[rB d];by_cases b:pk xs a=45\/vS (pk xs a)=true;·simp only[rG b];exact(Ww g A none n c 0 0 B a xs w m e l o j V b).mono fun e' w' h=>⟨h.1,⟨none,0,0,h.2.1⟩,h.2.2⟩
   ·simp only[rB b];have z:vS (pk xs a)=false:=by simpa using fun h=>b (.inr h)
    exact(SL g A none n c 0 0 B a xs w m e l o j p V h d (fun h=>b (.inl h)) z).mono fun e' w' h=>⟨h.1,⟨none,0,0,h.2.1⟩,h.2.2⟩
 ·have F:0<=Lib.indexByte xI (pk xs a):=V;simp only[rG F];rw[h];exact(SM g A none n c 0 0 a i (pk xs a) w m e j V h C).mono fun e' w' h=>⟨h.1,⟨none,0,0,h.2.1⟩,h.2.2⟩
def DY:afs:=[32,9,10,13]
def Wt(c:UInt8):(xo c=true/\0<=Lib.indexByte DY c)\/(xo c=false/\Lib.indexByte DY c= -1):=by have key:∀k:Fin 256,(xo (UInt8.ofNat k.val)=true/\0<=Lib.indexByte DY (UInt8.ofNat k.val))\/(xo (UInt8.ofNat k.val)=false/\Lib.indexByte DY (UInt8.ofNat k.val)= -1):=bF;have h:=key ⟨c.toNat,c.toNat_lt⟩;simpa only[xv]using h
def Sz{xs:afs}{a:Nat}(ha:a<xs.length)(h:xo (pk xs a)=true):wj xs (a+1)=wj xs a:=by unfold wj;have e:xs.drop a=pk xs a::xs.drop (a+1):=kG;rw[e,LM,rG h];simp;omega
def SA{xs:afs}{a:Nat}(ha:a<xs.length)(h:xo (pk xs a)=false):wj xs a=a:=by unfold wj;have e:xs.drop a=pk xs a::xs.drop (a+1):=kG;rw[e,LM,rB jg];rfl
def VC(xs:afs):wj xs xs.length=xs.length:=by unfold wj;simp
def Cw:Except Int Wd->Wd
 | .ok w=>w
 | .error _=>⟨0,0,[],0,0⟩
def Gm:Except Int Wd->Int
 | .ok _=>0
 | .error e=>e
def wdW(w:Wd):Value:=Tc w.kind w.int w.text (w.at_:Int) (w.next:Int)
def _root_.Go.Proofs.YtccjlcadbpinfaaGreatDoor.Can.vp.set{X:Addr->Prop}{B:Nat}{a w:World}{p:Addr}{u:Value}(h:vp X B a w)(b:X p):vp X B a (w.setCell p u):=h.trans (vp.setCell w u b)
def KX{e:Func}{p q:Tmp}{te:Value}(h:e.results= #[.cell p 117,.tmp q]){d:Array Value}{w:World}{g:Nat}{k n:Int}{t:afs}{a b:Int}(hp:d.getD p undef=sg g)(hq:d.getD q undef=te)(m:Q2 w g k n t a b):(results e d).run Tryz.prog w=.ok (.tuple #[Tc k n t a b,te]) w:=by have j:d[p]?.getD undef=sg g:=gg;have l:d[q]?.getD undef=te:=fY;simp only[results,h];simp[uJ,Result.andThen,j,l,asAddr,Qf w g k n t a b m]
def TG(A:aft)(n c B a:Nat)(xs:afs)(w:World)(an:Rd w B A n xs)(c3:B<=w.heap.size)(c9:n<=100000000)(cb:n<=c)(c4:a<=n):Calls Tryz.prog 106 #[.slice A n c,.int .i64 (a:Int)] w fun e' w'=>e'=.returned (.tuple #[wdW (Cw (sH xs a)),.int .i64 (Gm (sH xs a))])/\afv w w':=by
 have O:=an.len;obtain⟨R,M⟩:=sW (sH xs a);rw[<-M];have a0:=rz M;clear M;have sK:=(afw w).al rV (wZ);have a3:=J5.new w 0 0 [] 0 0 w.heap.size rfl;have ar:=an.sV sK c3;have bj:=sK.l1;have cR:decide ((a:Int)<0)=false:=bA;have cS:decide ((n:Int)<(a:Int))=false:=by simp;omega
 have cW:decide (n<a)=false:=by simp;omega
 go_enter Tryz.func106,Tryz.ntmps106;go_upto_region 1 with fail;generalize w.alloc _=w1 at*;go_wp2_with fail;go_loopw [1] (fun s wr=>∃j:Nat,s=.int .i64 (j:Int)/\a<=j/\j<=n/\wj xs j=wj xs a/\w1=wr) (fun s _=>n-(intOf s).toNat);case atStart=>exact⟨a,rfl,rZ _,c4,rfl,rfl⟩
 case
  round=>
   obtain⟨j,rfl,d4,d5,ad,rfl⟩:=hrel;have H:=rz ad;clear ad;by_cases h:j<n
   ·have d3:(j:Int)<(n:Int):=V;obtain⟨m,z,x,a7,d0,ci,c7⟩:=ar.at_ h;have d2:m<w1.heap.size:=by have:=sK.size;omega
    have af:x=pk xs j:=by simp[pk,List.getD,ci]
    have a8:=fun w=>Tryz.strings_IndexByte ⟨DY.toArray⟩ (x.toNat:Int) w
    have c8:(((x.toNat:Nat):Int)).toNat.toUInt8=x:=bA;simp only[c8]at a8;have ab:∀w,Calls Tryz.prog 152 #[.string ⟨#[32,9,10,13]⟩,.int .u8 (x.toNat:Int)] w (zW w (.int .i64 (Lib.indexByte DY x))):=fun w=>(a8 w).mono fun _ _ h=>⟨h.1,h.2.symm⟩
    have d7:=x.toNat_lt;have I:=rz af;have ch:=Wt x;generalize Lib.indexByte DY x=cs at*;have cr:=a7;subst a7;clear af;rcases ch with⟨o,az⟩|⟨o,az⟩
    ·have bk:=rz o;clear o;go_wp2_with fail;refine tZ (ab _) ?_;go_wp2_with fail;go_roundw;case rel=>have a6:=(Sz V (I.out▸bk.out)).trans H.out;first|exact⟨j+1,by simp,V,V,a6,rfl⟩|exact⟨j+1,by simp,V,V,a6,trivial⟩
     case measure=>simp[intOf];omega
    ·subst az;have S:wj xs a=j:=H.out.symm.trans (SA V (I.out▸o));have C:R=if(vG xs j).2.2.2.2=0 then .ok ⟨(vG xs j).1,(vG xs j).2.1,(vG xs j).2.2.1,j,(vG xs j).2.2.2.1⟩else .error (vG xs j).2.2.2.2:=by rw[a0.out];unfold sH;rw[S,rB V]
     have d6:¬(j:Int)=(n:Int):=V;have L:=rz C;clear C o;have E:=fun F(bx:xl F w1.heap.size (some ⟨m,z,none⟩) n c j 0 none 0 0) bz bO=>Wv w1.heap.size (some ⟨m,z,none⟩) n c B j xs F bx bz bO (by have:=sK.size;omega) c9 cb h
     rw[<-I.out]at E;generalize vG xs j=bp at*;obtain⟨U,W,X,ck,bd⟩:=bp;simp only[Tc]at E L;have bn:=rz E;clear E;go_wp2_with fail;refine tZ (ab _) ?_;go_wp2_with fail;have y:=(afw w1).al rV (.cells #[.slice (some ⟨m,z,none⟩) n c,.int .i64 (j:Int),.int .i64 0,.slice none 0 0] 227);have be:xl (w1.alloc (.cells #[.slice (some ⟨m,z,none⟩) n c,.int .i64 (j:Int),.int .i64 0,.slice none 0 0] 227)) w1.heap.size (some ⟨m,z,none⟩) n c j 0 none 0 0:=⟨⟨bi,bi,bi,bi⟩,bi,bi,bi⟩;have cf:=y.l1;have d8:=sK.size;have o:w.heap.size<w1.heap.size:=bj;have bs:=a3.below y V;have c5:=sK.sY rV y;have cc:=ar.sV y V;have cZ:=y.cl c7 V;generalize w1.alloc _=F at*;refine sG (bn.out F be cf cc) fun l ⟨⟨cp,df,ct,cj⟩,N⟩=> ?_
     have d9:=N.size;have bv:=bs.below N V;have c6:=c5.trans (N.mono V);generalize w1.heap.size=g at*;go_upto_region 9 with fail;have D:=(afw l).al rV (wC U W ⟨X.toArray⟩ 0 0);have a2:=J5.new l U W X 0 0 l.heap.size rfl;have Z:=cj.below D V;have a4:=bv.below D V;have a9:=c6.sY V D;have dd:=D.l1;generalize l.alloc _=di at*;have d1:g<l.heap.size:=V;generalize l.heap.size=f at*;have Y:=rz Z;have a5:=rz a4;have br:=rz a2;obtain⟨⟨b2,r1,T,b3⟩,aU,b0,b1⟩:=Z;clear a4 a2;by_cases aa:bd=0;·subst aa;have v:=L.out;rw[rG rfl]at v;subst v;go_upto_region 11 with fail;refine sT [0,1,2,3,4,5,6,7,8] [6,8] bm bm bA bm bt (fun wd e tj=> ?_);have G:=(Y.out.below e V);obtain⟨⟨b2,r1,T,b3⟩,aU,b0,b1⟩:=G;obtain⟨⟨cv,cx,cy,cz,cA⟩,cE⟩:=br.out.below e V;have bw:=a5.out.below e V;have Bv:=a9.sY V e;refine ak ?_;refine tc rfl rfl (g+1) V (fun a1 q=> ?_);go_wp2_with fail;refine q _ _ (xn.setCell bl _) ?_;refine ak ?_;refine tc rfl rfl (g+1) V (fun a1 q=> ?_);go_wp2_with fail;refine q _ _ (xn.setCell bl _) ?_;refine ak ?_;refine sQ ?_;obtain⟨⟨b4,b5,b6,b7,b8⟩,b9⟩:=bw;go_wp2_with fail;refine sc (KX (te:=.int .i64 0) (k:=U) (n:=W) (t:=X) (a:=(j:Int)) (b:=(ck:Int)) rfl rfl rfl ⟨bi,bi,bi,bi,bi⟩) rfl ⟨rfl,?_⟩;exact l7
     ·have v:=L.out;rw[rB aa]at v;subst v;go_upto_region 10 with fail;refine sR (K:=vp (fun p=>p.block=w.heap.size)) (vp.keeps _) (sA.of [0,1,2,3,4,5,6] .nil) [5] bm bm bF bm bt (fun dj e tj=> ?_);have G:=(Y.out.below e V);obtain⟨⟨b2,r1,T,b3⟩,aU,b0,b1⟩:=G;obtain⟨⟨b4,b5,b6,b7,b8⟩,b9⟩:=a5.out.below e V;have Bv:=a9.sY V e;repeat((first|(refine tp rfl rfl rfl bo ?_)|(refine tF rfl rfl rfl ?_)|(refine tA rfl rfl rfl (g+1) V _ (by intro w' hb;have y0:=(hb.cell ⟨g,2,none⟩ bl cM).trans T;clear hb;go_simp;first|done|with_reducible rfl) ?_));simp only[Act.put,rH,rC,rF])
      refine se rfl rfl (g+1) V (fun a1 q=> ?_);go_wp2_with fail;refine q _ _ ?_ ?_;·exact bZ
      repeat((first|(refine tp rfl rfl rfl bo ?_)|(refine tF rfl rfl rfl ?_)|(refine tA rfl rfl rfl (g+1) V _ bJ ?_));simp only[Act.put,rH,rC,rF])
      refine sF ?_;go_wp2_with fail;refine sc (KX (te:=.int .i64 bd) (k:=0) (n:=0) (t:=[]) (a:=0) (b:=0) rfl rfl rfl ⟨bi,bi,bi,bi,bi⟩) rfl ⟨rfl,?_⟩;exact l7
   ·obtain rfl:j=n:=V;have S:wj xs a=j:=by rw[<-H.out,<-O];exact VC xs
    have C:R=.ok ⟨11,0,[],j,j⟩:=by rw[a0.out];unfold sH;rw[S,rG O.symm,O]
    subst C;obtain⟨⟨b4,b5,b6,b7,b8⟩,b9⟩:=a3;go_wp2_with fail;refine sc (KX (te:=.int .i64 0) (k:=11) (n:=0) (t:=[]) (a:=(j:Int)) (b:=(j:Int)) rfl rfl rfl ⟨bi,bi,bi,bi,bi⟩) rfl ⟨rfl,?_⟩;exact mF
def ac9(w:World)(g:Nat)(A:aft)(n c:Nat)(a e:Int)(wd:Wd):Prop:=w.cell? (rN g 0)=some (.slice A n c)/\w.cell? (rN g 1)=some (.int .i64 a)/\w.cell? (rN g 2)=some (.int .i64 e)/\w.cell? (rN g 3)=some (.int .i64 wd.kind)/\w.cell? (rN g 4)=some (.int .i64 wd.int)/\w.cell? (rN g 5)=some (.string ⟨wd.text.toArray⟩)/\w.cell? (rN g 6)=some (.int .i64 (wd.at_:Int))/\w.cell? (rN g 7)=some (.int .i64 (wd.next:Int))
def CD(w:World)(g:Nat)(A:aft)(n c:Nat)(a e:Int)(wd:Wd):Prop:=ac9 w g A n c a e wd/\∀j,w.frozen? (rN g j)=false
def CD.keep{w w':World}{g:Nat}{A:aft}{n c:Nat}{a e:Int}{wd:Wd}(h:CD w g A n c a e wd)(b:∀j,w'.cell? (rN g j)=w.cell? (rN g j))(C:∀j,w'.frozen? (rN g j)=w.frozen? (rN g j)):CD w' g A n c a e wd:=by obtain⟨⟨d,l,m,o,p,q,v,y⟩,z⟩:=h;exact⟨⟨(b 0).trans d,(b 1).trans l,(b 2).trans m,(b 3).trans o,(b 4).trans p,(b 5).trans q,(b 6).trans v,(b 7).trans y⟩,fun j=>(C j).trans (z j)⟩
def CD.below{w w':World}{g B:Nat}{A:aft}{n c:Nat}{a e:Int}{wd:Wd}(h:CD w g A n c a e wd)(hb:Below B w w')(b:g<B):CD w' g A n c a e wd:=h.keep (fun _=>hb.cell b) (fun _=>hb.frozen b)
def CD.off{w w':World}{g B x:Nat}{A:aft}{n c:Nat}{a e:Int}{wd:Wd}(h:CD w g A n c a e wd)(hb:sa x B w w')(b:g<B)(d:g≠x):CD w' g A n c a e wd:=h.keep (fun _=>hb.cell b d) (fun _=>hb.frozen b d)
def _root_.Go.RowKit.Below.Zp{B:Nat}{w:World}(e:B<=w.heap.size)(b d:Obj):Below B (w.alloc b) (w.alloc d):=⟨rfl,rfl,rfl,bA,fun k g=>(Kz w _ (show k<w.heap.size from V)).trans (Kz w _ (show k<w.heap.size from V)).symm⟩
def H8(g:Nat)(A:aft)(n c:Nat)(a e:Int)(wd:Wd)(w:World)(d:CD w g A n c a e wd)(b:e≠0):Calls Tryz.prog 52 #[sg g] w fun e' w'=>e'=.returned (.int .i64 0)/\w=w':=by have C:(e==0)=false:=rA.2 b;obtain⟨⟨j,l,m,o,p,q,v,y⟩,z⟩:=d;go_enter Tryz.func52,Tryz.ntmps52;exact bI
def JL(a:Nat):Except Int Wd->Nat
 | .ok w=>w.next
 | .error _=>a
def Li(wd:Wd):Except Int Wd->Wd
 | .ok w=>w
 | .error _=>wd
def yz(g:Nat)(A:aft)(n c B a:Nat)(xs:afs)(wd:Wd)(w:World)(a6:CD w g A n c a 0 wd)(b1:g<w.heap.size)(af:Rd w B A n xs)(az:B<=g)(ab:n<=100000000)(ad:n<=c)(a9:a<=n):Calls Tryz.prog 52 #[sg g] w fun e' w'=>e'=.returned (.int .i64 (Cw (sH xs a)).kind)/\CD w' g A n c (JL a (sH xs a)) (Gm (sH xs a)) (Li wd (sH xs a))/\sa g w.heap.size w w':=by
 have a2:∀e,sH xs a=.error e->e≠0:=fun e h=>fH
 have S:=fun w1 o(h2:B<=w1.heap.size)=>TG A n c B a xs w1 o h2 ab ad a9
 have a3:Gm (sH xs a)=0->JL a (sH xs a)=(Cw (sH xs a)).next
  /\Li wd (sH xs a)=Cw (sH xs a):=fun h=>
   by
    cases M:sH xs a with
    |ok v=>exact bK
    |error e=>rw[M]at h;exact absurd h (a2 e M)
 have a1:Gm (sH xs a)≠0->JL a (sH xs a)=a/\Li wd (sH xs a)=wd/\(Cw (sH xs a)).kind=0:=fun h=>
  by
   cases M:sH xs a with
   |ok v=>rw[M]at h;exact km
   |error e=>exact⟨rfl,rfl,rfl⟩
 clear a2;generalize JL a (sH xs a)=N2 at*;generalize Li wd (sH xs a)=ar at*;generalize Cw (sH xs a)=a7 at*;generalize Gm (sH xs a)=E at*;have HOK:=rz a3;have CO:=rz a1;clear a3 a1;obtain⟨vk,vn,vt,va,q⟩:=a7;simp only[wdW,Tc]at S|-;have C:=rz S;have X:=rz a6;clear S;obtain⟨⟨y,o,h2,D,F,G,H,I⟩,L⟩:=a6;go_enter Tryz.func52,Tryz.ntmps52;go_upto_region 3 with fail;clear y o h2 D F G H I L;refine sR (K:=Below) Below.keeps (sA.of [0,1,2,3,4,5,6,7] (.fork 8 (sA.of [9,10,11,12,13,14] .nil) 12 (sA.of [8,9,10,11,13,14] .nil))) [8,12,13] bm bm bF bm bt (fun we hd tj=> ?_);have T:=X.out.below hd V;have O:=af.sV hd V;have N:=hd;have b2:g<we.heap.size:=V;have b3:w.heap.size<=we.heap.size:=V;clear hd X tj;have z:=rz T;obtain⟨⟨y,o,h2,D,F,G,H,I⟩,L⟩:=T;repeat((first|(refine tp rfl rfl rfl bo ?_)|(refine tF rfl rfl rfl ?_)|(refine tA rfl rfl rfl (we.heap.size) V _ (by intro w' hb;have y0:=(hb.cell (p:=rN g 0) bl).trans y;have y1:=(hb.cell (p:=rN g 1) bl).trans o;clear hb;go_simp;first|done|with_reducible rfl) ?_));simp only[Act.put,rH,rC,rF])
 refine yr rfl rfl we.heap.size V (fun Q1 tv=> ?_) (fun Q1 tv=> ?_)
 ·go_wp2_with fail;refine sG (C.out we O V) fun b l=> ?_
  go_wp2_with fail;refine tv _ _ l ?_;clear tv;have a5:=l.size;refine am ?_;refine se rfl rfl we.heap.size V (fun Q1 tv=> ?_);go_wp2_with fail;refine tv _ _ (xn.alloc V _) ?_;clear tv;refine se rfl rfl we.heap.size V (fun Q1 tv=> ?_);go_wp2_with fail;refine tv _ _ (Below.Zp V _ _) ?_;clear tv;refine am ?_;refine sF ?_;have m:=(afw b).al rV (wC vk vn ⟨vt.toArray⟩ (va:Int) (q:Int));have SP:=(z.out.below l V).below m V;have WF6:=J5.new b vk vn vt va q b.heap.size rfl;have x8:=(N.sY V l).sY V m;have aa:=m.l1;have aU:w.heap.size<=b.heap.size:=V;clear m l z O N C y o h2 D F G H I L a5;generalize b.alloc _=w6 at*;generalize b.heap.size=f at*;exact lU
 ·go_wp2_with fail;refine tv _ _ (xn.alloc V _) ?_;clear tv;have m:=(afw we).al rV (wZ);have U:=z.out.below m V;have Y:=J5.new we 0 0 [] 0 0 we.heap.size rfl;have a4:=O.sV m V;have Z:=N.sY V m;have b0:=m.l1;refine se rfl rfl we.heap.size V (fun Q1 tv=> ?_);generalize we.alloc _=an at*;go_wp2_with fail;refine sG (C.out an a4 V) fun b l=> ?_
  go_wp2_with fail;refine tv _ _ (l.mono V) ?_;clear tv;have a5:=l.size;have W:=U.below l V;have a8:=Y.below l V;have a0:=Z.sY V l;obtain⟨⟨f0,f1,f2,f3,f4⟩,f5⟩:=a8;refine am ?_;refine se rfl rfl we.heap.size V (fun Q1 tv=> ?_);go_wp2_with fail;refine tv _ _ ?_ ?_;·repeat' (first|with_reducible exact Below.refl _ _|with_reducible refine Below.setCell ?_ bl _)
  clear tv;refine am ?_;refine sF ?_;have R:sa we.heap.size b.heap.size b (((((b.setCell ⟨we.heap.size,0,none⟩ (.int .i64 vk)).setCell ⟨we.heap.size,1,none⟩ (.int .i64 vn)).setCell ⟨we.heap.size,2,none⟩ (.string ⟨vt.toArray⟩)).setCell ⟨we.heap.size,3,none⟩ (.int .i64 (va:Int))).setCell ⟨we.heap.size,4,none⟩ (.int .i64 (q:Int))):=(((((sa.refl _ _ _).setAt 0 _).setAt 1 _).setAt 2 _).setAt 3 _).setAt 4 _;have SP:=W.off R V V;have WF6:J5 (((((b.setCell ⟨we.heap.size,0,none⟩ (.int .i64 vk)).setCell ⟨we.heap.size,1,none⟩ (.int .i64 vn)).setCell ⟨we.heap.size,2,none⟩ (.string ⟨vt.toArray⟩)).setCell ⟨we.heap.size,3,none⟩ (.int .i64 (va:Int))).setCell ⟨we.heap.size,4,none⟩ (.int .i64 (q:Int))) we.heap.size vk vn vt va q:=⟨⟨bi,bi,bi,bi,bi⟩,fun j=>by have:=f5 j;go_simp⟩;have x8:=a0.trans (R.below (B':=w.heap.size) V V);have aa:we.heap.size<((((((b.setCell ⟨we.heap.size,0,none⟩ (.int .i64 vk)).setCell ⟨we.heap.size,1,none⟩ (.int .i64 vn)).setCell ⟨we.heap.size,2,none⟩ (.string ⟨vt.toArray⟩)).setCell ⟨we.heap.size,3,none⟩ (.int .i64 (va:Int))).setCell ⟨we.heap.size,4,none⟩ (.int .i64 (q:Int)))).heap.size:=by simp;omega
  clear f0 f1 f2 f3 f4 f5 W a0 R z U Y O a4 N Z C m l y o h2 D F G H I L;generalize(((((b.setCell _ _).setCell _ _).setCell _ _).setCell _ _).setCell _ _)=w6 at*;generalize we.heap.size=f at*;exact lU
end Go.Proofs.YtccjlcadbpinfaaGreatDoor.Tp
namespace Go.Proofs.YtccjlcadbpinfaaGreatDoor.Tp
open Num Mem Can
def Qm{xs:afs}{a:Nat}(h:pk xs a≠0):a<xs.length:=by
 rcases tE a xs.length with b|b;·exact b
 ·unfold pk at h;rw[List.getD,tu b]at h;exact km
def KD{xs:afs}:∀(k a v:Nat),a<=(vI xs k a v).2
 |0,a,v=>rZ _
 |k+1,a,v=>
 by
  unfold vI;split;·rename_i d _;have:=KD (xs:=xs) k (a+1) (v*16+d);omega
  ·exact jF
def Xg{xs:afs}{a:Nat}(h:(xx xs a).2.2=0):a<(xx xs a).1/\(xx xs a).1<=xs.length:=by
 unfold xx at h|-;cases l:Kq (pk xs a)with
 |some b=>
  simp only;have m:pk xs a≠0:=fun e=>
   by
    rcases Og (pk xs a)with⟨_,g⟩|⟨i,_,_,_,j⟩;·rw[l]at g;cases g
    ·exact j e
  have:=Qm m;omega
 |none=>
  rw[l]at h;simp only at h|-;by_cases d:pk xs a≠117;·rw[rG d]at h;simp at h
  ·rw[rB d]at h|-;have o:pk xs a=117:=by simpa using d
   have v:=Qm (xs:=xs) (a:=a) (by rw[o];decide);have y:=KD (xs:=xs) 4 (a+1) 0;have C:=Ch (xs:=xs) 4 (a+1) 0 V;have q:a<(CZ xs a).2/\(CZ xs a).2<=xs.length:=by
    unfold CZ;split;·rename_i p;have j:=Qm (xs:=xs) (a:=(vI xs 4 (a+1) 0).2+1) (by rw[p.2.2.2];decide);have z:=KD (xs:=xs) 4 ((vI xs 4 (a+1) 0).2+2) 0;have D:=Ch (xs:=xs) 4 ((vI xs 4 (a+1) 0).2+2) 0 V;exact bl
    ·omega
   split<;>exact q
def OR{xs:afs}:∀(f a:Nat)(ts:afs),(D0 xs f a ts).2.2=0->a<(D0 xs f a ts).2.1/\(D0 xs f a ts).2.1<=xs.length
 |0,a,ts,h=>by simp[D0]at h
 |f+1,a,ts,h=>
 by
  unfold D0 at h|-;by_cases d:(pk xs a).toNat<32;·rw[rG d]at h;simp at h
  ·rw[rB d]at h|-;have l:a<xs.length:=Qm fun e=>d (by rw[e];decide)
   by_cases g:pk xs a=34;·rw[rG g];exact bl
   ·rw[rB g]at h|-;by_cases j:pk xs a=92
    ·rw[rG j]at h|-;by_cases b:(xx xs (a+1)).2.2=0;·rw[rG b]at h|-;have:=OR f _ _ h;have:=Xg b;omega
     ·rw[rB b]at h;exact absurd h b
    ·rw[rB j]at h|-;by_cases b:(Ut.wu (xs.drop a)).2.2=0;·rw[rG b]at h|-;have:=OR f _ _ h;omega
     ·rw[rB b]at h;simp at h
def UY{xs:afs}{a:Nat}(b:a<=xs.length):(zN xs a).2.2<=xs.length/\((zN xs a).1≠0->a<(zN xs a).2.2):=by
 have key:∀p:afs,Lib.hasPrefix (xs.drop a) p=true->a+p.length<=xs.length:=fun p h=>by have:=Qo h;rw[sU]at this;omega
 unfold zN;split;·exact nh
 ·split;·exact nh
  ·split;·exact nh
   ·exact⟨b,fun h=>absurd rfl h⟩
def Wu{xs:afs}{a:Nat}(o:a<xs.length)(h:(vG xs a).2.2.2.2=0):a<(vG xs a).2.2.2.1/\(vG xs a).2.2.2.1<=xs.length:=by
 unfold vG at h|-;by_cases d:0<=Lib.indexByte xI (pk xs a);·rw[rG d];exact bl
 ·rw[rB d]at h|-;by_cases e:pk xs a=34;·rw[rG e]at h|-;simp only at h|-;have:=OR _ _ _ h;omega
  ·rw[rB e]at h|-;by_cases g:pk xs a=45\/vS (pk xs a)=true
   ·rw[rG g]at h|-;simp only at h|-;have l:=MJ (xs.drop (x6 xs a)) 0 false;rw[sU]at l;unfold WL at h;simp only at h;unfold Fl OM at*;have m:a<=x6 xs a/\x6 xs a<=a+1:=by unfold x6;split<;>omega
    by_cases b:(zO (xs.drop (x6 xs a)) 0 false).2.2=0;·rw[rG (.inl b)]at h;simp at h
    ·omega
   ·rw[rB g]at h|-;simp only at h|-;have j:=UY (xs:=xs) (a:=a) V;unfold Jx at h;by_cases b:(zN xs a).1=0;·rw[rG (.inl b)]at h;simp at h
    ·exact⟨j.2 b,j.1⟩
def VB{xs:afs}{a:Nat}(b:a<=xs.length):a<=wj xs a/\wj xs a<=xs.length:=by unfold wj;have:=(List.takeWhile_prefix (l:=xs.drop a) (p:=xo)).length_le;rw[sU]at this;omega
def y9{xs:afs}{a:Nat}{wd:Wd}(e:a<=xs.length)(h:sH xs a=.ok wd):wd.next<=xs.length/\a<=wd.next/\(wd.kind≠11->a<wd.next):=by
 have g:=VB e;unfold sH at h;by_cases d:wj xs a=xs.length;·rw[rG d]at h;injection h with h;subst h;exact⟨rZ _,e,fun h=>absurd rfl h⟩
 ·rw[rB d]at h;by_cases b:(vG xs (wj xs a)).2.2.2.2=0;·rw[rG b]at h;injection h with h;subst h;have:=Wu V b;simp only;exact⟨this.2,V,fun _=>V⟩
  ·rw[rB b]at h;cases h
def wB{xs:afs}{a:Nat}{e:Int}(h:sH xs a=.error e):e≠0:=fH
end Go.Proofs.YtccjlcadbpinfaaGreatDoor.Tp
namespace Go.Proofs.YtccjlcadbpinfaaGreatDoor.Tp
open ChangeShapes WideShapes ChangeAt RowKit
open Num Mem Can
def vX(g:Nat)(A:aft)(n c:Nat)(a e l:Int)(wd:Wd)(w:World)(d:CD w g A n c a e wd):Calls Tryz.prog 103 #[sg g,.int .i64 l] w fun e' w'=>e'=.returned (.tuple #[])/\CD w' g A n c a (if e=0 then l else e) wd/\sa g w.heap.size w w':=by
 by_cases b:e=0;·subst b;rw[rG rfl];obtain⟨⟨o,p,q,v,y,z,C,D⟩,p8⟩:=d;go_enter Tryz.func103,Tryz.ntmps103;go_wp2_with fail;refine uv (tR rfl _ _ _) rfl ?_;exact⟨rfl,⟨⟨bi,bi,bi,bi,bi,bi,bi,bi⟩,fun j=>iU⟩,(sa.refl _ _ _).setAt _ _⟩
 ·rw[rB b];have E:(e==0)=false:=rA.2 b;have m:=rz d;obtain⟨⟨o,p,q,v,y,z,C,D⟩,p8⟩:=d;go_enter Tryz.func103,Tryz.ntmps103;go_wp2_with fail;refine uv (tR rfl _ _ _) rfl ?_;exact⟨rfl,m.out,sa.refl _ _ _⟩
def jv(k i:Int)(t:ByteArray)(A:aft)(n c:Nat)(A':aft)(n' c':Nat):List Value:=[.int .i64 k,.int .i64 i,.string t,.slice A n c,.slice A' n' c']
def Ti(w:World)(r:Nat)(k i:Int)(t:ByteArray)(A:aft)(n c:Nat)(A':aft)(n' c':Nat):Prop:=w.cell? (rN r 0)=some (.int .i64 k)/\w.cell? (rN r 1)=some (.int .i64 i)/\w.cell? (rN r 2)=some (.string t)/\w.cell? (rN r 3)=some (.slice A n c)/\w.cell? (rN r 4)=some (.slice A' n' c')
def vW(w:World)(r:Nat)(k i:Int)(t:ByteArray)(A:aft)(n c:Nat)(A':aft)(n' c':Nat):Prop:=Ti w r k i t A n c A' n' c'/\∀j,w.frozen? (rN r j)=false
section
variable{w w':World}{r x B n c n' c':Nat}{A A':aft}{k i:Int}{t:ByteArray}
def vW.keep(h:vW w r k i t A n c A' n' c')(b:∀j,w'.cell? (rN r j)=w.cell? (rN r j))(p:∀j,w'.frozen? (rN r j)=w.frozen? (rN r j)):vW w' r k i t A n c A' n' c':=by obtain⟨⟨d,e,g,l,m⟩,o⟩:=h;exact⟨⟨(b 0).trans d,(b 1).trans e,(b 2).trans g,(b 3).trans l,(b 4).trans m⟩,fun j=>(p j).trans (o j)⟩
def vW.below(h:vW w r k i t A n c A' n' c')(hb:Below B w w')(b:r<B):vW w' r k i t A n c A' n' c':=h.keep (fun _=>hb.cell b) (fun _=>hb.frozen b)
def vW.off(h:vW w r k i t A n c A' n' c')(hb:sa x B w w')(b:r<B)(d:r≠x):vW w' r k i t A n c A' n' c':=h.keep (fun _=>hb.cell b d) (fun _=>hb.frozen b d)
def vW.new(w:World)(k i:Int)(t:ByteArray)(A:aft)(n c:Nat)(A':aft)(n' c':Nat)(g:Nat)(hg:g=w.heap.size):vW (w.alloc (jC k i t A n c A' n' c')) g k i t A n c A' n' c':=oe
def Qd(h:Ti w r k i t A n c A' n' c'):(loadVar 60 ⟨r,0,none⟩).run Tryz.prog w=.ok (jA k i t A n c A' n' c') w:=by obtain⟨b,d,e,g,j⟩:=h;go_simp
def uX{b:Func}{p:Tmp}(h:b.results= #[.cell p 60]){d:Array Value}(e:d.getD p undef=sg r)(g:Ti w r k i t A n c A' n' c'):(results b d).run Tryz.prog w=.ok (jA k i t A n c A' n' c') w:=by rw[zp h,e];simp only[asAddr,vR,ua];exact Qd g
end
def IsO(w:World)(X:afu)(cs:List Value):Option J->Prop
 |some j=>uq w X cs j
 |none=>∃(k i:Int)(t:ByteArray)(A:aft)(n c:Nat)(A':aft)(n' c':Nat),cs=jv k i t A n c A' n' c'
def xz:Way IsO 5:=⟨fun{_ _ _ _ _ a} h d b=>by cases a with|none=>exact h|some j=>exact uq.keep h d b,fun{_ _ _ a} h=>by cases a with|none=>obtain⟨k,i,t,A,n,c,A',n',c',rfl⟩:=h;rfl|some j=>exact uq.len h,fun{_ _ _ a} h=>by cases a with|none=>obtain⟨k,i,t,A,n,c,A',n',c',rfl⟩:=h;simp[jv,Value.oneCell']|some j=>exact ve.one h⟩
def uK.toO{e:TypeId}{k:Nat}{S N:afu}{w:World}{H n c:Nat}{A:aft}{l:List J}(h:uK uq e k S N w H A n c l):uK IsO e k S N w H A n c (l.map some):=by obtain⟨b,d,g,j,m,o⟩:=h;exact⟨b,d,g,by simp[j],m,fun i p q=>by simp only[Tk];exact o i p (by simpa using q)⟩
def uK.ofO{e:TypeId}{k:Nat}{S N:afu}{w:World}{H n c:Nat}{A:aft}{l:List J}(h:uK IsO e k S N w H A n c (l.map some)):uK uq e k S N w H A n c l:=by obtain⟨b,d,g,h3,j,m⟩:=h;refine⟨b,d,g,kY,j,fun i o p=> ?_⟩;have:=m i o (by simpa using p);simp only[Tk]at this;exact this
def rJ:Except Int (J×Nat)->Option J
 | .ok (j,_)=>some j
 | .error _=>none
def rE:Except Int (J×Nat)->Int
 | .ok _=>0
 | .error e=>e
def Gn(xs:afs)(g:Nat)(A:aft)(n c:Nat)(R:Except Int (J×Nat))(w:World):Prop:=∃(a:Nat)(wd:Wd),CD w g A n c a (rE R) wd/\(∀j b,R=.ok (j,b)->a=b/\b<=xs.length)/\(∀e,R=.error e->e≠0)
def Eb(xs:afs)(g:Nat)(A:aft)(n c:Nat)(R:Except Int (J×Nat))(w:World)(e:Ending)(w':World):Prop:=∃(k i:Int)(t:ByteArray)(d:aft)(j c1:Nat)(h:aft)(l c2:Nat),e=.returned (jA k i t d j c1 h l c2)/\IsO w' (fun b=>w.heap.size<=b/\b<w'.heap.size) (jv k i t d j c1 h l c2) (rJ R)/\Gn xs g A n c R w'/\sa g w.heap.size w w'
def I7(xs:afs)(g:Nat)(A:aft)(n c B f:Nat):Prop:=∀(wd:Wd)(b:Nat)(w:World)(R:Except Int (J×Nat)),wU xs f wd b=some R->CD w g A n c wd.next 0 wd->g<w.heap.size->Rd w B A n xs->wd.next<=n->b<=32->Calls Tryz.prog 51 #[sg g,.int .i64 wd.kind,.int .i64 (b:Int)] w (Eb xs g A n c R w)
def exists_least{p:afu}(h:∃m,p m):∃m,p m/\∀k,p k->m<=k:=by
 obtain⟨m,e⟩:=h;induction m using Nat.strongRecOn with
 |_ m ih=>
  by_cases h:∃k,k<m/\p k;·obtain⟨k,b,g⟩:=h;exact ih k b g
  ·exact⟨m,e,fun k b=>Nat.le_of_not_lt fun d=>h ⟨k,d,b⟩⟩
noncomputable def least(p:afu):Nat:=by classical exact if h:∃m,p m then(exists_least h).choose else 0
def HO{p:afu}(h:∃m,p m):p (least p):=by unfold least;rw[dif_pos h];exact(exists_least h).choose_spec.1
def least_le{p:afu}{m:Nat}(h:p m):least p<=m:=by have b:∃m,p m:=⟨m,h⟩;unfold least;rw[dif_pos b];exact(exists_least b).choose_spec.2 m h
def OF:Aq (fun _ _ _=>True):=⟨fun _ _=>trivial,fun _ _=>trivial,fun _ _=>trivial⟩
def KK{w:World}{N N':afu}{H d n c n' c':Nat}{A A':aft}{l:List J}{ks:List afs}{e e':TypeId}{k i:Int}(h:uK uq e 5 nS N w d A n c l)(p:uK Nn e' 1 nS N' w d A' n' c' ks)(K:H<=d)(F:n<=100000000)(G:n'<=100000000):uq w (fun b=>H<=b/\b<w.heap.size) [.int .i64 k,.int .i64 i,.string ⟨([]:afs).toArray⟩,.slice A n c,.slice A' n' c'] (.mk k i [] l ks):=by
 obtain⟨I,C,D,E⟩:=h.row ve V;obtain⟨m,v,y,z⟩:=p.row uz V;have q:m=uL ks:=by apply wH (by simp[uL,y]);intro i j o;have:m[i]=[sv ks[i]]:=z i j V;rw[this];simp[uL]
 subst q;have g:∀b,(nS b\/d<=b)/\b<w.heap.size->H<=b/\b<w.heap.size:=fun b hb=>⟨eG,hb.2⟩
 exact .mk (C.keep (fun _ _=>rfl) g) D (fun i j o=>(E i j o).keep (fun _ _=>rfl) g) (v.keep (fun _ _=>rfl) g) h.cap p.cap F G
def UC{w:World}{H d n c:Nat}{A:aft}{l:List J}{e:TypeId}{k i:Int}(h:uK uq e 5 nS nS w d A n c l)(g:H<=d)(j:n<=100000000):uq w (fun b=>H<=b/\b<w.heap.size) [.int .i64 k,.int .i64 i,.string ⟨([]:afs).toArray⟩,.slice A n c,.slice none 0 0] (.mk k i [] l []):=KK (N':=nS) (e':=9) h (uK.nil _ _ _ _ _ _ _) g j V
def LsI(xs:afs)(g:Nat)(A:aft)(n c j h H F:Nat)(R:Except Int (J×Nat))(m:Nat)(s:Value)(wr:World):Prop:=(∃(wd:Wd)(l:List J)(b:aft)(d c1:Nat),s=.int .i64 wd.kind/\CD wr g A n c wd.next 0 wd/\vW wr h 5 0 ⟨#[]⟩ b d c1 none 0 0/\uK uq 60 5 nS nS wr H b d c1 l/\C1 xs m wd j l=some R/\wd.next<=n/\m+l.length<=F)\/(m=0/\∃(k e:Int)(a:Nat)(wd:Wd)(b:aft)(d c1:Nat),s=.int .i64 k/\R=.error e/\e≠0/\CD wr g A n c a e wd/\vW wr h 5 0 ⟨#[]⟩ b d c1 none 0 0)
def aae(g:Nat)(A:aft)(n c B a f a3:Nat)(xs:afs)(wd:Wd)(w:World)(R:Except Int (J×Nat))(d9:∀m,m<f->I7 xs g A n c B m)(ga:f<=100000000)(d7:FR xs f a a3=some R)(fx:CD w g A n c a 0 wd)(fc:g<w.heap.size)(cs:Rd w B A n xs)(b2:B<=g)(cE:n<=100000000)(cR:n<=c)(f5:a<=n)(f7:a3<=32):Calls Tryz.prog 105 #[sg g,.int .i64 (a3:Int)] w (Eb xs g A n c R w):=by
 have gf:=cs.len;have en:=rz d7;have es:=rz d9;clear d7 d9;go_enter Tryz.func105,Tryz.ntmps105;go_upto_region 3 with fail;have cy:=((afw w).al rV (jZ)).alloc bA (jC 5 0 ⟨#[]⟩ none 0 0 none 0 0);have ek:=fx.below cy fc;have f0:=(vW.new w 0 0 ⟨#[]⟩ none 0 0 none 0 0 w.heap.size rfl).below (xn.alloc rV (jC 5 0 ⟨#[]⟩ none 0 0 none 0 0)) bA;have et:=vW.new (w.alloc (jZ)) 5 0 ⟨#[]⟩ none 0 0 none 0 0 (w.heap.size+1) bA;have go:w.heap.size+1<((w.alloc (jZ)).alloc (jC 5 0 ⟨#[]⟩ none 0 0 none 0 0)).heap.size:=bA;have ds:=cs.sV cy V;generalize(w.alloc _).alloc _=w1 at*;go_wp2_with fail;refine sG (yz g A n c B a xs wd w1 ek V ds b2 cE cR f5) fun G ⟨b4,bv⟩=> ?_
 have gs:=bv.size;have d3:=f0.off bv V V;have cx:=et.off bv V V;have Nt:sa g w.heap.size w G:=(sa.of cy).trans (bv.mono V);have gn:=ds.off bv V b2;have L:FR xs f a a3=some R:=en.out;obtain⟨f,rfl⟩:∃f1,f=f1+1:=by cases f with|zero=>simp[FR]at L|succ f=>exact⟨f,rfl⟩
 unfold FR at L;have f8:∀e,sH xs a=.error e->e≠0:=fun e h=>wB h
 have dd:=fun v h=>y9 (xs:=xs) (a:=a) (wd:=v) V h
 by_cases h4:(Cw (sH xs a)).kind=4
 ·obtain⟨v,e3⟩:∃v,sH xs a=.ok v:=fZ;rw[e3]at L h4 b4|-;simp only[Cw]at h4;simp only[rG h4,sq]at L;subst L;have ZV:=dd v e3;simp only[Cw,JL,Gm,Li,h4]at b4|-;obtain⟨⟨e9,ea,eb,ec,ed⟩,ef⟩:=d3;obtain⟨⟨af,an,ar,az,aU⟩,a6⟩:=cx;go_wp2_with fail;refine sc (uX (k:=5) (i:=0) (t:=⟨#[]⟩) (A:=none) (n:=0) (c:=0) (A':=none) (n':=0) (c':=0) rfl rfl ⟨bi,bi,bi,bi,bi⟩) rfl ?_;have Ck:sa w.heap.size G.heap.size G (((((G.setCell ⟨w.heap.size,0,none⟩ (.int .i64 5)).setCell ⟨w.heap.size,1,none⟩ (.int .i64 0)).setCell ⟨w.heap.size,2,none⟩ (.string ⟨#[]⟩)).setCell ⟨w.heap.size,3,none⟩ (.slice none 0 0)).setCell ⟨w.heap.size,4,none⟩ (.slice none 0 0)):=(((((sa.refl _ _ _).setAt 0 _).setAt 1 _).setAt 2 _).setAt 3 _).setAt 4 _;refine⟨5,0,⟨#[]⟩,none,0,0,none,0,0,rfl,?_,⟨v.next,v,b4.off Ck V V,fun j a' h=> ?_,fun e h=>dM⟩,?_⟩;·exact .mk (Row.nil _ _ 5 none) rfl (fun i h=>absurd h bA) (Row.nil _ _ 1 none) rV rV V V
  ·exact jK
  ·exact mw
 ·have g8:((Cw (sH xs a)).kind==4)=false:=rA.2 h4;have br:∃m,LsI xs g A n c a3 (w.heap.size+1) G.heap.size f R m (.int .i64 (Cw (sH xs a)).kind) G:=by
   cases hT:sH xs a with
   |error e=>rw[hT]at L b4;simp only[sq]at L;exact⟨0,.inr ⟨rfl,0,e,a,wd,none,0,0,rfl,L.symm,f8 e hT,b4,cx⟩⟩
   |ok v=>rw[hT]at L b4 h4;simp only[Cw]at h4;simp only[rB h4]at L;exact⟨f,.inl ⟨v,[],none,0,0,rfl,b4,cx,uK.nil _ _ _ _ _ _ _,L,by have:=dd v hT;omega,bA⟩⟩
  generalize(Cw (sH xs a)).kind=K at*;have el:=rz br;clear br;go_wp2_with fail;go_loopw [7] (fun s wr=>vW wr w.heap.size 0 0 ⟨#[]⟩ none 0 0 none 0 0/\sa g w.heap.size w wr/\G.heap.size<=wr.heap.size/\∃m,LsI xs g A n c a3 (w.heap.size+1) G.heap.size f R m s wr) (fun s wr=>least fun m=>LsI xs g A n c a3 (w.heap.size+1) G.heap.size f R m s wr);case atStart=>exact⟨d3,Nt,rZ _,el.out⟩
  case
   round=>
    obtain⟨d1,yG,gR,fb⟩:=hrel;have fl:=HO fb;generalize d6:(least fun m=>LsI xs g A n c a3 (w.heap.size+1) G.heap.size f R m u7 wr)=M at*;have be:=rz d6;clear d6;have fn:=cs.off yG V b2;rcases fl with⟨v,l,cb,o,c1,rfl,a9,a7,df,b3,ZV,gk⟩|⟨gi,k,e,a2,v,cb,o,c1,rfl,rfl,he,a9,a7⟩
    ·obtain⟨m,rfl⟩:∃m,M=m+1:=by cases M with|zero=>simp[C1]at b3|succ m=>exact⟨m,rfl⟩
     have gl:=df.len V;unfold C1 at b3;obtain⟨H,d8⟩:∃H,wU xs m v a3=some H:=by
      cases h:wU xs m v a3 with
      |none=>rw[h]at b3;cases b3
      |some H=>exact⟨H,rfl⟩
     rw[d8]at b3;have cZ:=rz b3;clear b3;have e4:=fun w1 h1 h2 f2=>es.out m V v a3 w1 H d8 h1 h2 f2 ZV f7
     have d0:=rz e4;clear e4;have HP:=rz a9;have em:=rz a7;obtain⟨⟨fE,fS,g0,g1,g2,g3,g4,g5⟩,g6⟩:=a9;go_upto_region 7 with fail;go_cut []from 21 to 30 (fun bd=>vW bd w.heap.size 0 0 ⟨#[]⟩ none 0 0 none 0 0/\sa g w.heap.size w bd/\G.heap.size<=bd.heap.size/\Gn xs g A n c H bd/\∃I c2,vW bd (w.heap.size+1) 5 0 ⟨#[]⟩ I (o+1) c2 none 0 0/\uK IsO 60 5 nS nS bd G.heap.size I (o+1) c2 (l.map some++[rJ H]));case
      first
       =>
        refine sR (K:=fun _ _ _=>True) OF (sA.of [0,2,3,4] (.fork 1 (sA.of [5,6,7,8,9] .nil) 5 ((.fork 1 (sA.of [6,7,8,9] .nil) 6 (sA.of [1,7,8,9] .nil))))) [1,5,6,7,9] bm bm bF bm (by intro _ _ d _ _ h;cases d<;>exact h) (fun b9 b7 h3=> ?_);have a9:=HP.out.below b7 V;have a7:=em.out.below b7 V;have d5:=d1.below b7 V;have cz:=df.below ve b7;have dz:=fn.sV b7 V;have cS:=yG.trans (sa.of (b7.mono dK));have gA:G.heap.size<=b9.heap.size:=V;have abQ:=cz.block;have gd:=cS.size;refine ah ?_;refine yr rfl rfl 0 rV (fun W y=> ?_) (fun W y=> ?_)
        ·have aa:=a7;obtain⟨⟨af,an,ar,az,aU⟩,a6⟩:=aa;go_wp2_with fail;refine y _ _ trivial ?_;refine ah ?_;refine se rfl rfl 0 rV (fun W y=> ?_);go_wp2_with fail;refine(d0.out b9 a9 V dz).mono ?_;rintro e' C ⟨k,i,t,T,a0,X,U,a1,Z,rfl,ci,Nu,a5⟩;go_wp2_with fail;refine y _ _ trivial ?_;have ft:=a5.size;have bO:=a7.off a5 V V;have cc:=d5.off a5 V V;have ch:=cz.toO.off xz a5 V (by simp[nS]);have ck:=cS.trans (a5.mono V);clear a9 a7;refine ah ?_;refine se rfl rfl 0 rV (fun W y=> ?_);go_wp2_with fail;refine y _ _ trivial ?_;have sK:=(afw C).al rV (jC k i t T a0 X U a1 Z);have bj:=vW.new C k i t T a0 X U a1 Z C.heap.size rfl;have b6:=bO.below sK V;have bn:=cc.below sK V;have bw:=ch.below xz sK;have c4:=ck.trans (sa.of (sK.mono V));have bz:=xz.keep (Y:=fun b=>(nS b\/b9.heap.size<=b)/\b<(C.alloc (jC k i t T a0 X U a1 Z)).heap.size) ci (fun q c7=>sK.cell c7.2) (fun b hb=>⟨.inr hb.1,by simp;omega⟩);have Hz:Gn xs g A n c H (C.alloc (jC k i t T a0 X U a1 Z)):=mC;have e0:=sK.l1;generalize(C.alloc _)=ei at*;generalize C.heap.size=q at*;refine ah ?_;refine se rfl rfl 0 rV (fun W y=> ?_);obtain⟨⟨j0,e5,e6,e7,e8⟩,_⟩:=bj;go_wp2_with(at_builtin;refine tn (z:=jA 0 0 ⟨#[]⟩ none 0 0 none 0 0) (bytes:=80) rfl tQ yP rfl V V xz rfl rfl bw bz V dB (by intro b hb;cases hb) (by intro b hb;cases hb) (fun j u ad=>by rcases j with _|_|_|_|_|j<;>simp[jv]at ad<;>subst ad<;>assumption) V V ?_;intro N O E bx x8 _ _);refine y _ _ trivial ?_;have e1:=x8.size;have c3:=b6.below x8 V;have bp:=bn.below x8 V;have c5:=c4.trans (sa.of (x8.mono V));have OA:Gn xs g A n c H E:=mB;refine ah ?_;refine se rfl rfl 0 rV (fun W y=> ?_);obtain⟨⟨af,an,ar,az,aU⟩,a6⟩:=c3;go_wp2_with fail;refine y _ _ trivial ?_;refine sF ?_;have zY:sa (w.heap.size+1) E.heap.size E (E.setCell ⟨w.heap.size+1,3,none⟩ (.slice N (o+1) O)):=(sa.refl _ _ _).setAt 3 _;have c9:G.heap.size<=(E.setCell ⟨w.heap.size+1,3,none⟩ (.slice N (o+1) O)).heap.size:=by simp;omega
         have c8:Gn xs g A n c H (E.setCell ⟨w.heap.size+1,3,none⟩ (.slice N (o+1) O)):=mx;go_wp2_with fail;go_meet;exact⟨bp.off zY V V,c5.wS bl _,c9,c8,N,O,⟨⟨by go_simp,by go_simp,by go_simp,by go_simp,by go_simp⟩,fun j=>by have:=a6 j;go_simp⟩,bx.off xz zY V (by simp[nS])⟩
        ·go_wp2_with fail;refine(d0.out b9 a9 V dz).mono ?_;rintro e' C ⟨k,i,t,T,a0,X,U,a1,Z,rfl,ci,Nu,a5⟩;go_wp2_with fail;refine y _ _ trivial ?_;have ft:=a5.size;have bO:=a7.off a5 V V;have cc:=d5.off a5 V V;have ch:=cz.toO.off xz a5 V (by simp[nS]);have ck:=cS.trans (a5.mono V);clear a9 a7;refine ah ?_;refine yr rfl rfl 0 rV (fun W y=> ?_) (fun W y=> ?_)
         ·have aa:=bO;obtain⟨⟨af,an,ar,az,aU⟩,a6⟩:=aa;go_wp2_with fail;refine y _ _ trivial ?_;refine ah ?_;refine se rfl rfl 0 rV (fun W y=> ?_);go_wp2_with fail;refine y _ _ trivial ?_;have sK:=(afw C).al rV (jC k i t T a0 X U a1 Z);have bj:=vW.new C k i t T a0 X U a1 Z C.heap.size rfl;have b6:=bO.below sK V;have bn:=cc.below sK V;have bw:=ch.below xz sK;have c4:=ck.trans (sa.of (sK.mono V));have bz:=xz.keep (Y:=fun b=>(nS b\/b9.heap.size<=b)/\b<(C.alloc (jC k i t T a0 X U a1 Z)).heap.size) ci (fun q c7=>sK.cell c7.2) (fun b hb=>⟨.inr hb.1,by simp;omega⟩);have Hz:Gn xs g A n c H (C.alloc (jC k i t T a0 X U a1 Z)):=mC;have e0:=sK.l1;generalize(C.alloc _)=ei at*;generalize C.heap.size=q at*;refine ah ?_;refine se rfl rfl 0 rV (fun W y=> ?_);obtain⟨⟨j0,e5,e6,e7,e8⟩,_⟩:=bj;go_wp2_with(at_builtin;refine tn (z:=jA 0 0 ⟨#[]⟩ none 0 0 none 0 0) (bytes:=80) rfl tQ yP rfl V V xz rfl rfl bw bz V dB (by intro b hb;cases hb) (by intro b hb;cases hb) (fun j u ad=>by rcases j with _|_|_|_|_|j<;>simp[jv]at ad<;>subst ad<;>assumption) V V ?_;intro N O E bx x8 _ _);refine y _ _ trivial ?_;have e1:=x8.size;have c3:=b6.below x8 V;have bp:=bn.below x8 V;have c5:=c4.trans (sa.of (x8.mono V));have OA:Gn xs g A n c H E:=mB;refine ah ?_;refine se rfl rfl 0 rV (fun W y=> ?_);obtain⟨⟨af,an,ar,az,aU⟩,a6⟩:=c3;go_wp2_with fail;refine y _ _ trivial ?_;refine sF ?_;have zY:sa (w.heap.size+1) E.heap.size E (E.setCell ⟨w.heap.size+1,3,none⟩ (.slice N (o+1) O)):=(sa.refl _ _ _).setAt 3 _;have c9:G.heap.size<=(E.setCell ⟨w.heap.size+1,3,none⟩ (.slice N (o+1) O)).heap.size:=by simp;omega
          have c8:Gn xs g A n c H (E.setCell ⟨w.heap.size+1,3,none⟩ (.slice N (o+1) O)):=mx;go_wp2_with fail;go_meet;exact⟨bp.off zY V V,c5.wS bl _,c9,c8,N,O,⟨⟨by go_simp,by go_simp,by go_simp,by go_simp,by go_simp⟩,fun j=>by have:=a6 j;go_simp⟩,bx.off xz zY V (by simp[nS])⟩
         ·go_wp2_with fail;refine y _ _ trivial ?_;have sK:=(afw C).al rV (jC k i t T a0 X U a1 Z);have bj:=vW.new C k i t T a0 X U a1 Z C.heap.size rfl;have b6:=bO.below sK V;have bn:=cc.below sK V;have bw:=ch.below xz sK;have c4:=ck.trans (sa.of (sK.mono V));have bz:=xz.keep (Y:=fun b=>(nS b\/b9.heap.size<=b)/\b<(C.alloc (jC k i t T a0 X U a1 Z)).heap.size) ci (fun q c7=>sK.cell c7.2) (fun b hb=>⟨.inr hb.1,by simp;omega⟩);have Hz:Gn xs g A n c H (C.alloc (jC k i t T a0 X U a1 Z)):=mC;have e0:=sK.l1;generalize(C.alloc _)=ei at*;generalize C.heap.size=q at*;refine ah ?_;refine se rfl rfl 0 rV (fun W y=> ?_);have aa:=b6;obtain⟨⟨af,an,ar,az,aU⟩,a6⟩:=aa;go_wp2_with fail;refine y _ _ trivial ?_;refine ah ?_;refine se rfl rfl 0 rV (fun W y=> ?_);obtain⟨⟨j0,e5,e6,e7,e8⟩,_⟩:=bj;go_wp2_with(at_builtin;refine tn (z:=jA 0 0 ⟨#[]⟩ none 0 0 none 0 0) (bytes:=80) rfl tQ yP rfl V V xz rfl rfl bw bz V dB (by intro b hb;cases hb) (by intro b hb;cases hb) (fun j u ad=>by rcases j with _|_|_|_|_|j<;>simp[jv]at ad<;>subst ad<;>assumption) V V ?_;intro N O E bx x8 _ _);refine y _ _ trivial ?_;have e1:=x8.size;have c3:=b6.below x8 V;have bp:=bn.below x8 V;have c5:=c4.trans (sa.of (x8.mono V));have OA:Gn xs g A n c H E:=mB;refine ah ?_;refine se rfl rfl 0 rV (fun W y=> ?_);obtain⟨⟨af,an,ar,az,aU⟩,a6⟩:=c3;go_wp2_with fail;refine y _ _ trivial ?_;refine sF ?_;have zY:sa (w.heap.size+1) E.heap.size E (E.setCell ⟨w.heap.size+1,3,none⟩ (.slice N (o+1) O)):=(sa.refl _ _ _).setAt 3 _;have c9:G.heap.size<=(E.setCell ⟨w.heap.size+1,3,none⟩ (.slice N (o+1) O)).heap.size:=by simp;omega
          have c8:Gn xs g A n c H (E.setCell ⟨w.heap.size+1,3,none⟩ (.slice N (o+1) O)):=mx;go_wp2_with fail;go_meet;exact⟨bp.off zY V V,c5.wS bl _,c9,c8,N,O,⟨⟨by go_simp,by go_simp,by go_simp,by go_simp,by go_simp⟩,fun j=>by have:=a6 j;go_simp⟩,bx.off xz zY V (by simp[nS])⟩
     case
      rest=>
       obtain⟨d4,cr,gz,⟨a8,v8,h8,f3,f4⟩,I,c2,dp,dj⟩:=hcut;have gb:=cr.size;clear a7;have dx:=cs.off cr V b2;cases H with
       |error e=>
        have L:some (Except.error e)=some R:=cZ.out;injection L with L;subst L;have he:=f4 e rfl;simp only[rE]at h8;go_wp2_with fail;refine tZ (H8 g A n c a8 e v8 wc h8 he) ?_;go_wp2_with fail;refine sG (vX g A n c a8 e 20 v8 wc h8) fun eh ⟨a4,S⟩=> ?_
        rw[rB he]at a4;have e2:=S.size;have bk:=d4.off S V V;have ab:=dp.off S V V;have c6:=cr.trans (S.mono V);go_wp2_with fail;go_roundw;case rel=>first|exact⟨bk,c6,V,0,.inr ⟨rfl,v.kind,e,a8,v8,I,o+1,c2,rfl,rfl,cD,a4,ab⟩⟩
        case measure=>rw[be.out];exact th (least_le (m:=0) (.inr ⟨rfl,v.kind,e,a8,v8,I,o+1,c2,rfl,rfl,cD,a4,ab⟩)) V
       |ok p=>
        obtain⟨j,a'⟩:=p;obtain⟨rfl,f6⟩:=f3 j a' rfl;simp only[rE,rJ]at h8 dj;have D:=cZ.out;simp only at D;have ff:=fun v h=>y9 (xs:=xs) (a:=a8) (wd:=v) f6 h
        have f9:=fun e h=>wB (xs:=xs) (a:=a8) (e:=e) h
        have fj:uK uq 60 5 nS nS wc G.heap.size I (o+1) c2 (l++[j]):=uK.ofO (by rw[yD];exact dj);go_wp2_with fail;refine sG (yz g A n c B a8 xs v8 wc h8 V dx b2 cE cR V) fun b8 ⟨h9,b5⟩=> ?_
        have gx:=b5.size;have cf:=d4.off b5 V V;have cj:=dp.off b5 V V;have di:=fj.off ve b5 V eQ;have cp:=cr.trans (b5.mono V);have fm:=dx.off b5 V b2;cases hT:sH xs a8 with
        |error b0=>
         rw[hT]at D h9;simp only[sq]at D;subst D;have he:=f9 b0 hT;simp only[Cw,JL,Gm,Li]at h9|-;go_wp2_with fail;refine sG (vX g A n c a8 b0 20 v8 b8 h9) fun eh ⟨a4,S⟩=> ?_
         rw[rB he]at a4;have e2:=S.size;have bk:=cf.off S V V;have ab:=cj.off S V V;have c6:=cp.trans (S.mono V);go_wp2_with fail;go_roundw;case rel=>first|exact⟨bk,c6,V,0,.inr ⟨rfl,v.kind,b0,a8,v8,I,o+1,c2,rfl,rfl,cD,a4,ab⟩⟩
         case measure=>rw[be.out];exact th (least_le (m:=0) (.inr ⟨rfl,v.kind,b0,a8,v8,I,o+1,c2,rfl,rfl,cD,a4,ab⟩)) V
        |ok F=>
         rw[hT]at D h9;have h0:=ff F hT;simp only at D;simp only[Cw,JL,Gm,Li]at h9|-;by_cases ct:F.kind=4
         ·rw[rG ct,sq]at D;subst D;rw[ct];have aa:=cj;have cW:=cf;obtain⟨⟨af,an,ar,az,aU⟩,a6⟩:=aa;obtain⟨⟨e9,ea,eb,ec,ed⟩,ef⟩:=cW;go_wp2_with fail;have Ck:sa w.heap.size b8.heap.size b8 (((((b8.setCell ⟨w.heap.size,0,none⟩ (.int .i64 5)).setCell ⟨w.heap.size,1,none⟩ (.int .i64 0)).setCell ⟨w.heap.size,2,none⟩ (.string ⟨#[]⟩)).setCell ⟨w.heap.size,3,none⟩ (.slice I (o+1) c2)).setCell ⟨w.heap.size,4,none⟩ (.slice none 0 0)):=((((((sa.refl _ _ _).setAt 0 _).setAt 1 _).setAt 2 _).setAt 3 _).setAt 4 _);refine sc (uX (k:=5) (i:=0) (t:=⟨#[]⟩) (A:=I) (n:=o+1) (c:=c2) (A':=none) (n':=0) (c':=0) rfl rfl ⟨bi,bi,bi,bi,bi⟩) rfl ?_;refine⟨5,0,⟨#[]⟩,I,o+1,c2,none,0,0,rfl,UC (di.off ve Ck V eQ) V V,?_,?_⟩;·exact⟨F.next,F,h9.off Ck V V,fun j a' h=>mK,fun e h=>dM⟩
          ·repeat' (first|with_reducible exact cp|with_reducible refine sa.wS ?_ bl _)
         ·rw[rB ct]at D;have h5:(F.kind==4)=false:=rA.2 ct;by_cases cv:F.kind=6
          ·rw[rG cv]at D;have er:=rz D;clear D;rw[cv];go_wp2_with fail;refine sG (yz g A n c B F.next xs F b8 h9 V fm b2 cE cR V) fun g7 ⟨b1,bs⟩=> ?_
           have gr:=bs.size;have d2:=cf.off bs V V;have cA:=cj.off bs V V;have fi:=di.off ve bs V eQ;have dr:=cp.trans (bs.mono V);go_wp2_with fail;have D:=er.out;cases hT:sH xs F.next with
           |error b0=>
            rw[hT]at D b1;simp only[sq]at D;subst D;have he:=wB hT;simp only[Cw,JL,Gm,Li]at b1|-;go_roundw;case rel=>first|exact⟨d2,dr,V,0,.inr ⟨rfl,0,b0,F.next,F,I,o+1,c2,rfl,rfl,cD,b1,cA⟩⟩
            case measure=>rw[be.out];exact th (least_le (m:=0) (.inr ⟨rfl,0,b0,F.next,F,I,o+1,c2,rfl,rfl,cD,b1,cA⟩)) V
           |ok eg=>
            rw[hT]at D b1;simp only at D;have gW:=y9 V hT;simp only[Cw,JL,Gm,Li]at b1|-;have br:LsI xs g A n c a3 (w.heap.size+1) G.heap.size f R m (.int .i64 eg.kind) g7:=.inl ⟨eg,l++[j],I,o+1,c2,rfl,b1,cA,fi,D,V,by simp;omega⟩;go_roundw;case rel=>exact⟨d2,dr,V,m,br⟩
            case measure=>rw[be.out];exact th (least_le br) V
          ·rw[rB cv,sq]at D;subst D;have h6:(F.kind==6)=false:=rA.2 cv;go_wp2_with fail;refine sG (vX g A n c F.next 0 20 F b8 h9) fun eh ⟨a4,S⟩=> ?_
           rw[rG rfl]at a4;have e2:=S.size;have bk:=cf.off S V V;have ab:=cj.off S V V;have c6:=cp.trans (S.mono V);go_wp2_with fail;go_roundw;case rel=>first|exact⟨bk,c6,V,0,.inr ⟨rfl,v.kind,20,F.next,F,I,o+1,c2,rfl,rfl,cD,a4,ab⟩⟩
           case measure=>rw[be.out];exact th (least_le (m:=0) (.inr ⟨rfl,v.kind,20,F.next,F,I,o+1,c2,rfl,rfl,cD,a4,ab⟩)) V
    ·have gc:=yG.size;have g9:(e==0)=false:=rA.2 he;have HP:=rz a9;obtain⟨⟨fE,fS,g0,g1,g2,g3,g4,g5⟩,g6⟩:=a9;have aa:=a7;have cW:=d1;obtain⟨⟨af,an,ar,az,aU⟩,a6⟩:=aa;obtain⟨⟨e9,ea,eb,ec,ed⟩,ef⟩:=cW;go_wp2_with fail;have Ck:sa w.heap.size wr.heap.size wr (((((wr.setCell ⟨w.heap.size,0,none⟩ (.int .i64 5)).setCell ⟨w.heap.size,1,none⟩ (.int .i64 0)).setCell ⟨w.heap.size,2,none⟩ (.string ⟨#[]⟩)).setCell ⟨w.heap.size,3,none⟩ (.slice cb o c1)).setCell ⟨w.heap.size,4,none⟩ (.slice none 0 0)):=((((((sa.refl _ _ _).setAt 0 _).setAt 1 _).setAt 2 _).setAt 3 _).setAt 4 _);refine sc (uX (k:=5) (i:=0) (t:=⟨#[]⟩) (A:=cb) (n:=o) (c:=c1) (A':=none) (n':=0) (c':=0) rfl rfl ⟨bi,bi,bi,bi,bi⟩) rfl ?_;refine⟨5,0,⟨#[]⟩,cb,o,c1,none,0,0,rfl,⟨_,_,_,_,_,_,_,_,_,rfl⟩,?_,?_⟩;·exact oA
     ·repeat' (first|with_reducible exact yG|with_reducible refine sa.wS ?_ bl _)
def Ef(ks:List afs):List ByteArray:=ks.map fun k=>⟨k.toArray⟩
def GF{w:World}{X:afu}{A:aft}{n:Nat}{ks:List afs}(h:Row w X 1 A n (uL ks))(o:0<n):∃b off,A=some ⟨b,off,none⟩/\∀j,j<(Ef ks).length->w.cell? (rN b (off+j))=some (.string ((Ef ks).getD j ByteArray.empty)):=by
 obtain⟨g,p,e,_,l⟩:=h.pos o;refine⟨g,p,e,fun j m=> ?_⟩;have d:j<ks.length:=by simpa[Ef]using m
 have:=(l j [sv ks[j]] (by simp[uL,d])).2 0 (sv ks[j]) rfl;rw[tL,sE]at this;rw[this];simp[Ef,sv,d]
def W3{ks:List afs}{k:afs}:(⟨k.toArray⟩:ByteArray)∈Ef ks↔k∈ks:=by
 unfold Ef;rw[ti];constructor
 ·rintro⟨a,b,h⟩;injection h with h;have:a=k:=by simpa using CF Array.toList h
  exact this▸b
 ·exact fun h=>⟨k,h,rfl⟩
def xJ{X:afu}{A:aft}{n c:Nat}{ks:List afs}(k:afs)(w:World)(h:Row w X 1 A n (uL ks))(g:n<=1000000000):Calls Tryz.prog 128 #[.slice A n c,.string ⟨k.toArray⟩] w (zW w (.bool (ks.contains k))):=by
 have hl:ks.length=n:=oy;by_cases d:n=0;·subst d;have:ks=[]:=rT hl;subst this;exact(Tryz.slices_Contains_string_empty A c ⟨k.toArray⟩ w).mono fun _ _ h=>⟨h.1,h.2.symm⟩
 ·obtain⟨b,off,rfl,e⟩:=GF h V;refine(Tryz.slices_Contains_string b off n c (Ef ks) ⟨k.toArray⟩ w jE V e).mono fun _ _ h=>⟨?_,h.2.symm⟩
  rw[h.1];congr 2;rw[yo jE,Aj,Lib.containsS_iff,W3,BX]
def Ip(g:Nat)(A:aft)(n c a v:Nat)(e:Int)(xs:afs)(wd:Wd)(w:World)(D:CD w g A n c a e wd)(he:e≠0)(y:g<w.heap.size):Calls Tryz.prog 51 #[sg g,.int .i64 0,.int .i64 (v:Int)] w (Eb xs g A n c (.error e) w):=by
 go_enter AN,zI;go_upto_region 1 with fail;have b:=(afw w).al rV (jZ);have o:=D.below b y;have p:=vW.new w 0 0 ⟨#[]⟩ none 0 0 none 0 0 w.heap.size rfl;have E:=b.l1;have z:sa g w.heap.size w (w.alloc (jZ)):=sa.of b;generalize w.alloc _=w1 at*;go_wp2_with fail;refine sG (vX g A n c a e 20 wd w1 o) fun l ⟨m,d⟩=> ?_
 rw[rB he]at m;have F:=d.size;have q:=p.off d V V;have Nt:=z.trans (d.mono V);obtain⟨⟨G,H,I,K,L⟩,M⟩:=q;go_wp2_with fail;have C:sa w.heap.size l.heap.size l (((((l.setCell ⟨w.heap.size,0,none⟩ (.int .i64 0)).setCell ⟨w.heap.size,1,none⟩ (.int .i64 0)).setCell ⟨w.heap.size,2,none⟩ (.string ⟨#[]⟩)).setCell ⟨w.heap.size,3,none⟩ (.slice none 0 0)).setCell ⟨w.heap.size,4,none⟩ (.slice none 0 0)):=(((((sa.refl _ _ _).setAt 0 _).setAt 1 _).setAt 2 _).setAt 3 _).setAt 4 _;refine sc (uX (k:=0) (i:=0) (t:=⟨#[]⟩) (A:=none) (n:=0) (c:=0) (A':=none) (n':=0) (c':=0) rfl rfl ⟨bi,bi,bi,bi,bi⟩) rfl ?_;refine⟨0,0,⟨#[]⟩,none,0,0,none,0,0,rfl,⟨_,_,_,_,_,_,_,_,_,rfl⟩,⟨a,wd,m.off C V V,fX,(fun e h=>iZ)⟩,?_⟩;exact mw
def D1(xs:afs)(a:Nat)(e:Int)(wd:Wd):Int×Nat×Int×Wd:=if e=0 then((Cw (sH xs a)).kind,JL a (sH xs a),Gm (sH xs a),Li wd (sH xs a))else(0,a,e,wd)
def JC(g:Nat)(A:aft)(n c B a:Nat)(e:Int)(xs:afs)(wd:Wd)(w:World)(d:CD w g A n c a e wd)(l:g<w.heap.size)(p:Rd w B A n xs)(h:B<=g)(m:n<=100000000)(o:n<=c)(j:e=0->a<=n):Calls Tryz.prog 52 #[sg g] w fun e' w'=>e'=.returned (.int .i64 (D1 xs a e wd).1)/\CD w' g A n c (D1 xs a e wd).2.1 (D1 xs a e wd).2.2.1 (D1 xs a e wd).2.2.2/\sa g w.heap.size w w':=by
 unfold D1;by_cases b:e=0;·subst b;simp only[rG];exact yz g A n c B a xs wd w d l p h m o (j rfl)
 ·simp only[rB b];refine tZ (H8 g A n c a e wd w d b) ?_;exact⟨rfl,d,sa.refl _ _ _⟩
def Dz(xs:afs)(a:Nat)(e:Int)(wd:Wd)(k:Int):Nat×Int×Wd:=((D1 xs a e wd).2.1,if(D1 xs a e wd).1=k then(D1 xs a e wd).2.2.1 else if(D1 xs a e wd).2.2.1=0 then 20 else(D1 xs a e wd).2.2.1,(D1 xs a e wd).2.2.2)
def Ni(g:Nat)(A:aft)(n c B a:Nat)(e k:Int)(xs:afs)(wd:Wd)(w:World)(M:CD w g A n c a e wd)(G:g<w.heap.size)(K:Rd w B A n xs)(D:B<=g)(H:n<=100000000)(I:n<=c)(E:e=0->a<=n):Calls Tryz.prog 53 #[sg g,.int .i64 k] w fun e' w'=>e'=.returned (.tuple #[])/\CD w' g A n c (Dz xs a e wd k).1 (Dz xs a e wd k).2.1 (Dz xs a e wd k).2.2/\sa g w.heap.size w w':=by
 unfold Dz;have l:=JC g A n c B a e xs wd w M G K D H I E;generalize D1 xs a e wd=C at*;obtain⟨m,N,te,O⟩:=C;simp only at l|-;have z:=rz l;clear l;obtain⟨R,d⟩:=sW (if m=k then te else if te=0 then 20 else te);rw[<-d];have o:=rz d;clear d;go_enter Tryz.func53,Tryz.ntmps53;go_wp2_with fail;refine sG z.out fun P ⟨p,j⟩=> ?_
 have L:=j.size;by_cases b:m=k;·have h:=o.out;rw[rG b]at h;subst b h;go_wp2_with fail;refine uv (tR rfl _ _ _) rfl ?_;exact⟨rfl,p,j⟩
 ·have h:=o.out;rw[rB b]at h;have v:=rz h;clear h;have S:(m==k)=false:=rA.2 b;go_wp2_with fail;refine sG (vX g A n c N te 20 O P p) fun T ⟨q,F⟩=> ?_
  have y:=rz q;clear q;go_wp2_with fail;refine uv (tR rfl _ _ _) rfl ?_;exact⟨rfl,by rw[v.out];exact y.out,j.trans (F.mono L)⟩
structure Bu(A:aft)(w:World)(A':aft)(w':World):Prop where
 size:w.heap.size<=w'.heap.size
 block:∀b,b<w.heap.size->A.map (·.block)≠some b->w'.heap[b]? =w.heap[b]?
 AA:A'.map (·.block)=A.map (·.block)\/∃b,A'.map (·.block)=some b/\w.heap.size<=b
def Bu.refl(A:aft)(w:World):Bu A w A w:=⟨rZ _,fun _ _ _=>rfl,.inl rfl⟩
def Bu.ne{A A':aft}{w w':World}(h:Bu A w A' w'){b:Nat}(hb:b<w.heap.size)(e:A.map (·.block)≠some b):A'.map (·.block)≠some b:=fun d=>
 by
  rcases h.AA with h|⟨c,h,g⟩;·exact e (h▸d)
  ·rw[h]at d;injection d with d;omega
def Bu.trans{A g j:aft}{w w1 m:World}(h:Bu A w g w1)(k:Bu g w1 j m):Bu A w j m:=⟨sn h.size k.size,fun p d l=>(k.block p (rS d h.size) (h.ne d l)).trans (h.block p d l),by
 have:=h.size;rcases k.AA with e|⟨b,e,hb⟩
 ·rcases h.AA with e'|⟨b,e',hb⟩;·exact .inl (e.trans e')
  ·exact .inr ⟨b,e.trans e',hb⟩
 ·exact .inr ⟨b,e,V⟩⟩
def Bu.of{A:aft}{w w':World}(h:afv w w'):Bu A w A w':=⟨h.size,fun b hb _=>h.block b hb,.inl rfl⟩
def Bu.al(A:aft)(w:World)(x:Obj):Bu A w A (w.alloc x):=Bu.of (xn.alloc rV x)
def Bu.sY{A b:aft}{w w1 d:World}(h:Bu A w b w1)(k:afv w1 d):Bu A w b d:=h.trans (Bu.of k)
def Bu.cell{A b:aft}{w w1:World}(h:Bu A w b w1){p:Addr}(e:p.block<w.heap.size)(d:A.map (·.block)≠some p.block):w1.cell? p=w.cell? p:=rK (w:=w) (h.block _ e d)
def Bu.frozen{A b:aft}{w w1:World}(h:Bu A w b w1){p:Addr}(e:p.block<w.heap.size)(d:A.map (·.block)≠some p.block):w1.frozen? p=w.frozen? p:=by simp[World.frozen?,h.block _ e d]
def Sv{w:World}{l n c m d B:Nat}{A A':aft}{xs o:afs}(ty:TypeId)(Er:Mem.Own w l A n c xs)(hr:Rd w B A' m o)(O:n+m<=140737488355328)(FN:l<=w.heap.size):∃e c2 w',(Builtin.append_ #[22,22] ty #[.slice A n c,.slice A' m d]).run Tryz.prog w=.ok (.slice e (n+m) c2) w'/\Mem.Own w' l e (n+m) c2 (xs++o)/\Below l w w'/\Bu A w e w':=by
 obtain⟨K,v,H,y,I⟩:=xG An;by_cases C:m=0;·subst C;have G:o=[]:=rT hr.1;subst G;exact⟨A,c,w,Cp tP v y Er ty A' d,by simpa using Er,Below.refl _ _,Bu.refl _ _⟩
 ·obtain⟨g,p,rfl,N,hc⟩:=hr.2 V;obtain⟨L,w',F,h2,h3,M,q⟩:=vu (P:=Tryz.prog) w l 22 ty 5 K (.int .u8 0) 1 1 tP v H y I rfl bH (.slice A n c) n (cells xs) Er ⟨g,p,none⟩ m d (cells o) kA dn (E9 o) dD V FN;have z:∃e c2,L=.slice e (n+m) c2:=cV;obtain⟨e,c2,rfl⟩:=z;have Lz:∀(B:aft)(m d:Nat),(Value.slice B m d).ownBlock=B.map (·.block):=fun B m d=>eI
  rw[Lz,Lz]at q;have E:∀b,b<w.heap.size->A.map (·.block)≠some b->w'.heap[b]? =w.heap[b]?:=fun b hb D=>h3.block b hb (fun he=>D fU)
  refine⟨e,c2,w',F,by unfold Mem.Own;exact lz,?_,⟨h3.size,E,q.imp id (fun h=>⟨_,h,rZ _⟩)⟩⟩;exact bV
section
variable{ops:Array Oper}{rest:List Oper}{a:Act}{w:World}{Q:Exit->Act->World->Prop}
def vl{e:Option Tmp}{s x:Operand}{ty:TypeId}{l:String}{g:Array Edge}{j:Option (Nat×Bool)}(z:Region.wanted ⟨e,.call {callee:=.builtin .append,args:= #[s,x],argTypes:= #[22,22]},ty,l,g,j⟩ (yielded ops a.tmps)=true){b n c m d B:Nat}{A A':aft}{xs o:afs}(hs:a.eval s=.slice A n c)(q:Mem.Own w b A n c xs)(hx:a.eval x=.slice A' m d)(v:Rd w B A' m o)(y:n+m<=140737488355328)(p:b<=w.heap.size)(h:∀A2 c2 w',Mem.Own w' b A2 (n+m) c2 (xs++o)->Below b w w'->Bu A w A2 w'->wpList Tryz.prog ops Q rest (a.put e (.slice A2 (n+m) c2)) w'):wpList Tryz.prog ops Q (⟨e,.call {callee:=.builtin .append,args:= #[s,x],argTypes:= #[22,22]},ty,l,g,j⟩::rest) a w:=by
 refine tG z fun K hK=> ?_
 obtain⟨A2,c2,w',IS,h2,h3,h4⟩:=Sv (w:=w) ty q v y p (d:=d);exact cF
end
def CJ(c:UInt8):afs:=if 0<=Lib.indexByte tW c/\c≠47 then [92,CY.getD (Lib.indexByte tW c).toNat 0]else if c.toNat<32 then [92,117,48,48,Ci.getD (c.toNat/16) 0,Ci.getD (c.toNat%16) 0]else [c]
def sB(s:afs):afs:=34::(s.flatMap CJ++[34])
def X3(c:UInt8):(CJ c).length<=6:=by
 unfold CJ;split;·simp
 ·split<;>simp
def Hp(s:afs):(s.flatMap CJ).length<=6*s.length:=by
 induction s with
 |nil=>simp
 |cons c r b=>rw[Bg,rL,rP];have:=X3 c;omega
def MN(c:UInt8):(∃k:Nat,Lib.indexByte tW c=k/\c≠47/\(k=0\/k=1\/k=3\/k=4\/k=5\/k=6\/k=7)/\CJ c=[92,CY.getD k 0])\/(Lib.indexByte tW c= -1/\c.toNat<32/\CJ c=[92,117,48,48,Ci.getD (c.toNat/16) 0,Ci.getD (c.toNat%16) 0])\/(Lib.indexByte tW c= -1/\32<=c.toNat/\CJ c=[c])\/(Lib.indexByte tW c=2/\c=47/\CJ c=[c]):=by
 have key:∀k:Fin 256,(Lib.indexByte tW (UInt8.ofNat k.val)=((Lib.indexByte tW (UInt8.ofNat k.val)).toNat:Int)/\UInt8.ofNat k.val≠47/\((Lib.indexByte tW (UInt8.ofNat k.val)).toNat=0\/(Lib.indexByte tW (UInt8.ofNat k.val)).toNat=1\/(Lib.indexByte tW (UInt8.ofNat k.val)).toNat=3\/(Lib.indexByte tW (UInt8.ofNat k.val)).toNat=4\/(Lib.indexByte tW (UInt8.ofNat k.val)).toNat=5\/(Lib.indexByte tW (UInt8.ofNat k.val)).toNat=6\/(Lib.indexByte tW (UInt8.ofNat k.val)).toNat=7)/\CJ (UInt8.ofNat k.val)=[92,CY.getD (Lib.indexByte tW (UInt8.ofNat k.val)).toNat 0])\/(Lib.indexByte tW (UInt8.ofNat k.val)= -1/\(UInt8.ofNat k.val).toNat<32/\CJ (UInt8.ofNat k.val)=[92,117,48,48,Ci.getD ((UInt8.ofNat k.val).toNat/16) 0,Ci.getD ((UInt8.ofNat k.val).toNat%16) 0])\/(Lib.indexByte tW (UInt8.ofNat k.val)= -1/\32<=(UInt8.ofNat k.val).toNat/\CJ (UInt8.ofNat k.val)=[UInt8.ofNat k.val])\/(Lib.indexByte tW (UInt8.ofNat k.val)=2/\UInt8.ofNat k.val=47/\CJ (UInt8.ofNat k.val)=[UInt8.ofNat k.val]):=bF;have h:=key ⟨c.toNat,c.toNat_lt⟩;simp only[xv]at h;rcases h with⟨b,d,e,g⟩|h|h|h;·exact .inl ⟨_,b,d,e,g⟩
 ·exact .inr (.inl h)
 ·exact .inr (.inr (.inl h))
 ·exact .inr (.inr (.inr h))
def ZN(k:Nat)(b:k<32)(w:World):(Instr.index 9 (.string ⟨#[48,49,50,51,52,53,54,55,56,57,97,98,99,100,101,102]⟩) (.int .u8 ((k:Int)/16))).run Tryz.prog w=.ok (.int .u8 ((Ci.getD (k/16) 0).toNat:Int)) w:=mI
def ZP(k:Nat)(b:k<32)(w:World):(Instr.index 9 (.string ⟨#[48,49,50,51,52,53,54,55,56,57,97,98,99,100,101,102]⟩) (.int .u8 (Go.bits BinOp.and IntKind.u8 (k:Int) 15))).run Tryz.prog w=.ok (.int .u8 ((Ci.getD (k%16) 0).toNat:Int)) w:=mI
