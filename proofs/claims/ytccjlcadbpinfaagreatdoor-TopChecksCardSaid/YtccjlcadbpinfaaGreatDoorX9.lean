import Derived.Test.YtccjlcadbpinfaaGreatDoorX7
set_option linter.all false
set_option maxRecDepth 100000
set_option maxHeartbeats 8000000
namespace Go.Proofs.YtccjlcadbpinfaaGreatDoor.Tp
open ChangeShapes WideShapes ChangeAt RowKit
open Num Mem Can
def sr(k:Int):Bool:=decide (k=9)||decide (k=10)||decide (k=14)
def vg(k:Int)(w:World):Calls Tryz.prog 65 #[.int .i64 k] w (zW w (.bool (sr k))):=by
 obtain⟨R,d⟩:=sW (sr k);rw[<-d];unfold sr at d;by_cases j:k=9
 ·obtain rfl:R=true:=by rw[d];simp[j]
  subst j;clear d;exact ol
 ·have t:(k==9)=false:=rA.2 j;have n:decide (k=9)=false:=by simp[j]
  by_cases i:k=10
  ·obtain rfl:R=true:=by rw[d];simp[i]
   subst i;clear d;exact ol
  ·have p:(k==10)=false:=rA.2 i;have m:decide (k=10)=false:=by simp[i]
   have l:R=decide (k=14):=by rw[d,n,m];rfl
   have g:=rz l;clear d l;by_cases e:k=14
   ·obtain rfl:R=true:=by rw[g.out];simp[e]
    subst e;clear g;exact ol
   ·have q:(k==14)=false:=rA.2 e;have o:decide (k=14)=false:=by simp[e]
    obtain rfl:R=false:=by rw[g.out];simp[e]
    clear g;exact ol
def Wz(_:World)(_:afu)(cs:List Value)(i:Int):Prop:=cs=[.int .i64 i]
def FG:Way Wz 1:=⟨fun h _ _=>h,fun h=>by rw[h];rfl,fun h=>by rw[h];exact dq⟩
def BJ:(Tryz.prog.info? 3).map (fun i=>(i.zero,i.size,i.bytes))=some (some (.int .i64 0),1,8):=bm
def HG{w:World}{N:afu}{H n c:Nat}{A:aft}{l:List Int}(h:uK Wz 3 1 nS N w H A n c l):Row w (fun b=>H<=b/\b<w.heap.size) 1 A n (xZ l):=by
 obtain⟨d,h1,e,g⟩:=h.row FG V;have e1:d=xZ l:=by apply wH (by simp[xZ,e]);intro i j k;have:d[i]=[.int .i64 l[i]]:=g i j V;rw[this];simp[xZ]
 exact oR
def uk(x:Nd):List Int:=if x.kind=9 then x.fields.map (·.type)else if x.kind=11\/x.kind=12 then [x.items]else if x.kind=13 then x.rX else []
def UG(d:List Int):(xZ d).flatten=d.map (Value.int .i64):=by
 induction d with
 |nil=>rfl
 |cons a r e=>simp only[xZ,xB,vo]at e|-;rw[e];rfl
def KZ{w:World}{X:afu}{H n c m d:Nat}{A A':aft}{l e:List Int}(ty:TypeId)(h:uK Wz 3 1 nS nS w H A n c l)(G:Row w X 1 A' m (xZ e))(a7:n+m<=100000000)(D:H<=w.heap.size):∃A2 c2 w',(Builtin.append_ #[77,77] ty #[.slice A n c,.slice A' m d]).run Tryz.prog w=.ok (.slice A2 (n+m) c2) w'/\uK Wz 3 1 nS nS w' H A2 (n+m) c2 (l++e)/\Below H w w':=by
 obtain⟨a2,k,Z,a0,a1⟩:=xG BJ;have Y:e.length=m:=by have:=G.len;exact fQ
 have Xl:=h.block;obtain⟨o,t,z,h3,L,C⟩:=h;by_cases S:m=0
 ·subst S;have W:e=[]:=rT Y;subst W;refine⟨A,c,w,?_,⟨o,by simpa using t,z,kY,L,fun i k R=>by simpa using C i k (by simpa using R)⟩,Below.refl _ _⟩;rcases t.2 with⟨y,hn0⟩|⟨g,cap,cur,y,_,_,T,_⟩;·injection y with e1 e2 e3;subst e1 e2 e3;cases A'<;>simp[Builtin.append_,Bt ud,sizeOf,typeInfo,k,Builtin.lenOf,Builtin.firstCells,loadCells,loadCellsFrom]
  ·injection y with e1 e2 e3;subst e1 e3;cases A'<;>simp[Builtin.append_,Bt ud,sizeOf,typeInfo,k,Builtin.lenOf,Builtin.firstCells,T,storeCells,loadCells,loadCellsFrom]
 ·obtain⟨g,p,rfl,a6,N⟩:=G.pos V;obtain⟨a3,w',U,g2,K,a4,a5⟩:=vu (P:=Tryz.prog) w H 77 ty 3 a2 (.int .i64 0) 1 8 ud k Z a0 a1 rfl bH (.slice A n c) n o.flatten t ⟨g,p,none⟩ m d (e.map (Value.int .i64)) (by rw[tN];omega) (fun j u v=>by rw[yl];obtain⟨hj,v⟩:=rQ.1 v;have E:j<e.length:=fK;have:=(N j [.int .i64 e[j]] (by simp[xZ,E])).2 0 _ rfl;rw[tL,sE]at this;rw[this,<-v];simp) dq dD V D;have O:∃A2 c2,a3=.slice A2 (n+m) c2:=cU;obtain⟨A2,c2,rfl⟩:=O;have Lz:∀(B:aft)(m d:Nat),(Value.slice B m d).ownBlock=B.map (·.block):=fun B m d=>eI
  refine⟨A2,c2,w',U,⟨o++xZ e,by rw[LK,UG];exact g2,?_,by simp[h3,xZ],fun b _ M=>M.elim,?_⟩,xn.grown K D fun b hb=>jP⟩
  ·intro I tj;rcases sI.1 tj with q|q;·exact z I q
   ·unfold xZ at q;obtain⟨a,_,rfl⟩:=ti.1 q;rfl
  ·intro j hj E;by_cases F:j<o.length;·rw[vP F,vP V];exact C j F V
   ·rw[uh V,uh V];simp only[xZ,Tk,h3];rfl
section
variable{ops:Array Oper}{Q:Exit->Act->World->Prop}{rest:List Oper}{a:Act}{w:World}
def Lr{ty:TypeId}{X:afu}{H n c m d:Nat}{A A':aft}{l k:List Int}{e:Option Tmp}{s x:Operand}{j:String}{g:Array Edge}{i:Option (Nat×Bool)}(t:Region.wanted ⟨e,.call {callee:=.builtin .append,args:= #[s,x],argTypes:= #[77,77]},ty,j,g,i⟩ (yielded ops a.tmps)=true)(hs:a.eval s=.slice A n c)(hx:a.eval x=.slice A' m d)(h:uK Wz 3 1 nS nS w H A n c l)(q:Row w X 1 A' m (xZ k))(p:n+m<=100000000)(o:H<=w.heap.size)(hh:∀A2 c2 w',uK Wz 3 1 nS nS w' H A2 (n+m) c2 (l++k)->Below H w w'->wpList Tryz.prog ops Q rest (a.put e (.slice A2 (n+m) c2)) w'):wpList Tryz.prog ops Q (⟨e,.call {callee:=.builtin .append,args:= #[s,x],argTypes:= #[77,77]},ty,j,g,i⟩::rest) a w:=by
 refine tG t fun K hK=> ?_
 obtain⟨A2,c2,w',IS,h2,h3⟩:=KZ ty h q (d:=d) p o;exact ez
end
def wm(w:World)(r:Nat)(x:Nd)(A1:aft)(n1 c1:Nat)(A2:aft)(n2 c2:Nat)(A3:aft)(n3 c3:Nat)(A4:aft)(n4 c4:Nat):Prop:=(w.cell? (rN r 0)=some (.int .i64 x.kind)/\w.cell? (rN r 1)=some (.string ⟨x.name.toArray⟩)/\w.cell? (rN r 2)=some (.slice A1 n1 c1)/\w.cell? (rN r 3)=some (.slice A2 n2 c2)/\w.cell? (rN r 4)=some (.slice A3 n3 c3)/\w.cell? (rN r 5)=some (.bool x.has)/\w.cell? (rN r 6)=some (.string ⟨x.sL.toArray⟩)/\w.cell? (rN r 7)=some (.int .i64 x.size)/\w.cell? (rN r 8)=some (.int .i64 x.items)/\w.cell? (rN r 9)=some (.slice A4 n4 c4))/\∀j,w.frozen? (rN r j)=false
section
variable{w w':World}{r B b:Nat}{x:Nd}{A1:aft}{n1 c1:Nat}{A2:aft}{n2 c2:Nat}{A3:aft}{n3 c3:Nat}{A4:aft}{n4 c4:Nat}
def wm.keep(h:wm w r x A1 n1 c1 A2 n2 c2 A3 n3 c3 A4 n4 c4)(d:∀j,w'.cell? (rN r j)=w.cell? (rN r j))(t:∀j,w'.frozen? (rN r j)=w.frozen? (rN r j)):wm w' r x A1 n1 c1 A2 n2 c2 A3 n3 c3 A4 n4 c4:=by obtain⟨⟨e,g,i,k,l,m,n,o,p,q⟩,v⟩:=h;exact⟨⟨(d 0).trans e,(d 1).trans g,(d 2).trans i,(d 3).trans k,(d 4).trans l,(d 5).trans m,(d 6).trans n,(d 7).trans o,(d 8).trans p,(d 9).trans q⟩,fun j=>(t j).trans (v j)⟩
def wm.below(h:wm w r x A1 n1 c1 A2 n2 c2 A3 n3 c3 A4 n4 c4)(hb:Below B w w')(d:r<B):wm w' r x A1 n1 c1 A2 n2 c2 A3 n3 c3 A4 n4 c4:=h.keep (fun _=>hb.cell d) (fun _=>hb.frozen d)
def wm.off(h:wm w r x A1 n1 c1 A2 n2 c2 A3 n3 c3 A4 n4 c4)(hb:sa b B w w')(e:r<B)(d:r≠b):wm w' r x A1 n1 c1 A2 n2 c2 A3 n3 c3 A4 n4 c4:=h.keep (fun _=>hb.cell e d) (fun _=>hb.frozen e d)
def wm.new(w:World)(x:Nd)(A1:aft)(n1 c1:Nat)(A2:aft)(n2 c2:Nat)(A3:aft)(n3 c3:Nat)(A4:aft)(n4 c4:Nat)(r:Nat)(d:r=w.heap.size):wm (w.alloc (nC x A1 n1 c1 A2 n2 c2 A3 n3 c3 A4 n4 c4)) r x A1 n1 c1 A2 n2 c2 A3 n3 c3 A4 n4 c4:=by subst d;exact⟨⟨bi,bi,bi,bi,bi,bi,bi,bi,bi,bi⟩,fun j=>bi⟩
end
def Tj(x:Nd)(A1:aft)(n1 c1:Nat)(A2:aft)(n2 c2:Nat)(A3:aft)(n3 c3:Nat)(A4:aft)(n4 c4:Nat)(w:World)(X:afu)(S:∀b,X b->b<w.heap.size)(U:xu w X A2 n2 x.fields)(D:Row w X 1 A4 n4 (xZ x.rX))(cj:n2<=100000000)(ck:n4<=100000000):Calls Tryz.prog 176 #[(nA x A1 n1 c1 A2 n2 c2 A3 n3 c3 A4 n4 c4)] w fun e w'=>(∃(A:aft)(m c:Nat),e=.returned (.slice A m c)/\m<=100000000/\m<=c/\Row w' (fun b=>w.heap.size<=b/\b<w'.heap.size) 1 A m (xZ (uk x)))/\afv w w':=by
 have C:=(afw w).al rV (nC x A1 n1 c1 A2 n2 c2 A3 n3 c3 A4 n4 c4);have a4:=wm.new w x A1 n1 c1 A2 n2 c2 A3 n3 c3 A4 n4 c4 w.heap.size rfl;have cp:=C.l1;have cb:=U.below C S;have a9:=Row.below D C S;have ci:x.rX.length=n4:=by have:=D.len;exact fQ
 have az:=U.len;have Y:uK Wz 3 1 nS nS (w.alloc (nC x A1 n1 c1 A2 n2 c2 A3 n3 c3 A4 n4 c4)) w.heap.size none 0 0 ([]:List Int):=uK.nil _ _ _ _ _ _ _;obtain⟨R,L⟩:=sW (uk x);rw[<-L];unfold uk at L;have o:=rz L;clear L;go_enter Tryz.func176,Tryz.ntmps176;go_upto_region 1 with fail;generalize w.alloc _=w1 at*;have a7:=a4;obtain⟨⟨b6,b7,b8,b9,bd,be,bj,bk,bn,bp⟩,br⟩:=a7;by_cases l:x.kind=9
 ·have h:=o.out;rw[rG l]at h;have E:=rz h;have b3:(x.kind==9)=true:=tl.2 l;clear h o l;go_wp2_with fail;go_loopw [3,13] (fun b4 Z wr=>∃(j:Nat)(n:aft)(q:Nat),Z=.int .i64 j/\j<=n2/\b4=.slice n j q/\uK Wz 3 1 nS nS wr w.heap.size n j q ((x.fields.take j).map (·.type))/\afv w wr) (fun _ Z _=>n2-(intOf Z).toNat);case atStart=>exact⟨0,none,0,rfl,sb _,rfl,by simpa using Y,C⟩
  case
   round=>
    obtain⟨j,n,q,rfl,cf,rfl,W,D⟩:=hrel;have aU:=D.size;by_cases an:j<n2;·have ch:(j:Int)<(n2:Int):=V;obtain⟨g,p,f,H,N,K,k,i,t,B,m,d,B',M,I,rfl,cc,hx,⟨bs,bv,bw,bx,bz,bO,c5,c6,c7⟩,_,_,_,_⟩:=zq (U.below D S) an;have a0:=W.below FG ((afw wr).al rV (fC f H N K k i t B m d B' M I));have a8:=((Below.refl w.heap.size wr).al aU (fC f H N K k i t B m d B' M I));have a1:(x.fields.take (j+1)).map (·.type)=(x.fields.take j).map (·.type)++[f.type]:=kV;have a3:=rz a1;clear a1 hx;go_upto_region 7 with fail;have cx:(wr.alloc (fC f H N K k i t B m d B' M I)).cell? (rN wr.heap.size 2)=some (.int .i64 f.type):=bi;have cr:(wr.alloc (fC f H N K k i t B m d B' M I)).heap.size=wr.heap.size+1:=bA;generalize wr.alloc _=O at*;have ad:=a0.below FG ((afw O).al rV (.cells #[.int .i64 f.type] 3));have ab:=a0.block;go_wp2_with(at_builtin;go_must(refine tn (z:=.int .i64 0) (bytes:=8) (H1:=O.heap.size) (y:=f.type) (cs:=[.int .i64 f.type]) rfl ud BJ rfl V V FG rfl rfl ad rfl V (fun b hb=>(ab b hb).2.1) bW bW (fun j u hu=>eP) V (by simp;omega) ?_);intro a2 a5 cy af aa _ _);refine⟨⟨j+1,a2,a5,bA,V,rfl,by rw[a3.out];exact af,((D.trans a8).trans ((Below.refl w.heap.size O).al V (.cells #[.int .i64 f.type] 3))).trans aa⟩,?_⟩;exact bN
    ·obtain rfl:j=n2:=V;go_wp2_with fail;go_ret;have h:=HG W;rw[show x.fields.take j=x.fields by rw[<-az,Tm],<-E.out]at h;exact⟨⟨n,j,q,rfl,V,W.cap,h⟩,D⟩
 ·have b3:(x.kind==9)=false:=rA.2 l;by_cases v:x.kind=11\/x.kind=12
  ·have h:=o.out;rw[rB l,rG v]at h;have E:=rz h;have ar:((x.kind==11)=true)\/((x.kind==11)=false/\(x.kind==12)=true):=by
    rcases v with h|h;·exact .inl (tl.2 h)
    ·exact .inr ⟨rA.2 V,tl.2 h⟩
   clear h o l v;rcases ar with a6|⟨a6,c8⟩;all_goals have b0:=Y.below FG ((afw w1).al rV (.cells #[.int .i64 x.items] 3));go_wp2_with(at_builtin;go_must(refine tn (z:=.int .i64 0) (bytes:=8) (H1:=w1.heap.size) (y:=x.items) (cs:=[.int .i64 x.items]) rfl ud BJ rfl V V FG rfl rfl b0 rfl V jy bW bW (fun j u hu=>eP) V (by simp;omega) ?_);intro n q b5 F T _ _);go_ret;have b1:=(C.trans ((Below.refl w.heap.size w1).al V (.cells #[.int .i64 x.items] 3))).trans T;exact⟨⟨n,1,q,rfl,V,F.cap,by rw[E.out];exact HG F⟩,b1⟩
  ·have ct:(x.kind==11)=false:=rA.2 (fun h=>v (.inl h));have cv:(x.kind==12)=false:=rA.2 (fun h=>v (.inr h));by_cases G:x.kind=13;·have h:=o.out;rw[rB l,rB v,rG G]at h;have b2:(x.kind==13)=true:=tl.2 G;have E:=rz h;clear h o l v G;go_wp2_with(at_builtin;go_must(refine Lr rfl rfl rfl Y a9 V V ?_);intro n q b5 F T);go_ret;have h:=HG F;have c9:=F.cap;rw[so,<-E.out,tq]at h;exact⟨⟨n,n4,q,rfl,V,V,h⟩,C.trans T⟩
   ·have b2:(x.kind==13)=false:=rA.2 G;obtain rfl:R=[]:=by rw[o.out,rB l,rB v,rB G]
    clear o;go_wp2_with fail;go_ret;exact⟨⟨none,0,0,rfl,V,rZ _,Row.nil _ _ _ _⟩,C⟩
def AV(S:List Nd)(e:Nat->Option Nat):List Int->Nat->Option Nat
 | [],d=>some d
 |k::ks,d=>if k=d then(match e d with|none=>none|some g=>AV S e ks g)else if k<0\/(d:Int)<k then none else if(match S[k.toNat]? with|some y=>sr y.kind|none=>false)then AV S e ks d else none
def ye(S:List Nd):Nat->Nat->Option Nat
 |0,_=>none
 |f+1,at_=>match S[at_]? with|none=>none|some x=>AV S (ye S f) (uk x) (at_+1)
def WY(w:World)(g:Nat)(A:aft)(n c:Nat)(root:Int)(d:Nat):Prop:=(w.cell? (rN g 0)=some (.slice A n c)/\w.cell? (rN g 1)=some (.int .i64 root)/\w.cell? (rN g 2)=some (.int .i64 (d:Int)))/\∀j,w.frozen? (rN g j)=false
def WY.below{w w':World}{g B:Nat}{A:aft}{n c:Nat}{root:Int}{e:Nat}(h:WY w g A n c root e)(hb:Below B w w')(d:g<B):WY w' g A n c root e:=by obtain⟨⟨i,k,l⟩,m⟩:=h;exact⟨⟨(hb.cell d).trans i,(hb.cell d).trans k,(hb.cell d).trans l⟩,fun j=>(hb.frozen d).trans (m j)⟩
def tJ.off{w w':World}{g B:Nat}{X:afu}{A:aft}{n:Nat}{l:List Nd}(h:tJ w X A n l)(hb:sa g B w w')(d:∀b,X b->b<B/\b≠g):tJ w' X A n l:=h.keep (fun q e=>hb.cell (d _ e).1 (d _ e).2) ug
def Zn(g:Nat)(A:aft)(n c:Nat)(root:Int)(B:Nat)(w:World)(R:Option Nat)(e:Ending)(w':World):Prop:=e=.returned (.bool R.isSome)/\(∃d,WY w' g A n c root d/\d<=n/\∀r,R=some r->r=d)/\sa g B w w'
def Wm(S:List Nd)(g:Nat)(A:aft)(n c:Nat)(root:Int)(X:afu)(e2:n<=100000000):∀(f at_:Nat)(d:Int)(w:World),d+f=33->0<=d->WY w g A n c root at_->at_<=n->tJ w X A n S->g<w.heap.size->(∀b,X b->b<w.heap.size/\b≠g)->Calls Tryz.prog 123 #[sg g,.int .i64 d] w (Zn g A n c root w.heap.size w (ye S f at_)):=by
 intro f;induction f with
 |zero=>intro at_ d w ch cf G W O ar C;have v:=G;obtain⟨⟨m,o,t⟩,z⟩:=G;obtain rfl:d=33:=V;by_cases Z:(n:Int)<=(at_:Int);all_goals go_enter Tryz.func123,Tryz.ntmps123;go_wp2_with fail;go_ret;exact⟨rfl,⟨at_,v,W,fun r h=>dM⟩,sa.refl _ _ _⟩
 |succ f cz=>
  intro at_ d w ch cf G W O ar C;have v:=G;obtain⟨⟨m,o,t⟩,z⟩:=G;have b1:=rz O.len;by_cases Z:at_<n
  ·obtain⟨R,I⟩:=sW (ye S (f+1) at_);rw[<-I];obtain⟨x,H⟩:∃x,S[at_]? =some x:=⟨_,rD (by rw[b1.out];exact Z)⟩;have a8:=rz H;simp only[ye,H]at I;have bn:=rz I;clear I H;have cc:¬(n:Int)<=(at_:Int):=V;have d5:(at_:Int)<(n:Int):=V;have di:¬(32:Int)<d:=V;have df:wrap64 (d+1)=d+1:=vw V V;go_enter Tryz.func123,Tryz.ntmps123;go_upto_region 5 with fail;have bp:WY (w.setCell ⟨g,2,none⟩ (.int .i64 ((at_:Int)+1))) g A n c root (at_+1):=⟨⟨bi,bi,bi⟩,fun j=>by have:=z j;go_simp⟩;have hz1:=(sa.refl g w.heap.size w).setAt 2 (.int .i64 ((at_:Int)+1));have b6:g<(w.setCell ⟨g,2,none⟩ (.int .i64 ((at_:Int)+1))).heap.size:=by simpa using ar
   clear m o t z v;generalize w.setCell _ _=w1 at*;have a2:=O.off hz1 C;have L:∀b,X b->b<w1.heap.size/\b≠g:=fun b hb=>⟨by have:=C b hb;exact kE,(C b hb).2⟩
   obtain⟨q,p,x',A1,n1,c1,A2,n2,c2,A3,n3,c3,A4,n4,c4,rfl,a1,a4,⟨a9,bs,bv,bw,bx,bz,bO,c5,c6,c7⟩,⟨cW,bj,cZ,bk⟩,⟨d6,d7,d8,d9⟩,e3,cs,e4,ct⟩:=uY a2 Z;obtain rfl:x=x':=by rw[a8.out]at a4;injection a4
   clear a4 a8;have ab:=Tj x A1 n1 c1 A2 n2 c2 A3 n3 c3 A4 n4 c4 w1 X (fun b hb=>(L b hb).1) bj bk cs ct;clear cW bj cZ bk;obtain⟨⟨m,o,t⟩,z⟩:=bp;go_wp2_with fail;refine ab.mono ?_;rintro e' T ⟨⟨d0,E,d1,rfl,e0,e1,b4⟩,M⟩;clear ab;have br:=WY.below (w:=w1) ⟨⟨m,o,t⟩,z⟩ M b6;have b9:=hz1.trans ((sa.of (M.mono (B':=w.heap.size) kE):sa g w.heap.size w1 T));have cx:=a2.below M (fun b hb=>(L b hb).1);have e6:=M.size;clear a9 bs bv bw bx bz bO c5 c6 c7 m o t z a2 O;generalize cr:uk x=ks at*;have b0:ks.length=E:=by have:=b4.len;exact fQ
   clear cr a1;have a7:=rz b0;clear b0;have d4:g<w1.heap.size:=b6;go_wp2_with fail;go_loopw [44] (fun a6 wr=>∃(j i:Nat),a6=.int .i64 j/\j<=E/\i<=n/\AV S (ye S f) (ks.drop j) i=R/\WY wr g (some ⟨q,p,none⟩) n c root i/\sa g T.heap.size T wr) (fun a6 _=>E-(intOf a6).toNat);case atStart=>exact⟨0,at_+1,rfl,sb _,V,bn.out.symm,br,sa.refl _ _ _⟩
   case
    round=>
     obtain⟨j,i,rfl,dj,F,b7,v,D⟩:=hrel;have U:=rz b7;clear b7;have e7:=D.size;have b5:=cx.off D (fun b hb=>⟨by have:=L b hb;omega,(C b hb).2⟩);have cb:∀b,X b->b<wr.heap.size/\b≠g:=fun b hb=>⟨by have:=L b hb;omega,(C b hb).2⟩
     have a5:=b9.trans (D.mono (B':=w.heap.size) kE);by_cases ci:j<E
     ·have cj:(j:Int)<(E:Int):=V;obtain⟨e9,e8,rfl,e5,an⟩:=(b4.keep (w':=wr) (Y:=fun b=>w1.heap.size<=b/\b<T.heap.size) (fun q a1=>D.cell V V) ug).pos V;have aU:j<ks.length:=by rw[a7.out];exact ci
      have cp:=(an j [.int .i64 ks[j]] (by simp[xZ,aU])).2 0 _ rfl;rw[tL,sE]at cp;have e:=U.out;rw[rM aU,AV]at e;clear an;generalize ks[j]=k at*;have l:=rz e;clear e U;have K:=v;obtain⟨⟨m,o,t⟩,z⟩:=v;by_cases N:k=(i:Int)
      ·have e:=l.out;rw[rG N]at e;subst N;have l:=rz e;clear e;have az:=cz i (d+1) wr V V K F b5 V cb;have dd:∀b:Bool,((i:Int)==(i:Int))=true:=fun _=>bA
       go_wp2_with fail;refine sG az fun ea ⟨⟨cE,af,b3,c9⟩,cy⟩=> ?_
       clear az;have bd:=D.trans (cy.mono V);cases a3:ye S f i with
       |none=>have e:=l.out;rw[a3]at e;subst e;go_wp2_with fail;go_ret;exact⟨rfl,⟨cE,af,b3,fun r h=>dM⟩,b9.trans (bd.mono kE)⟩
       |some be=>have e:=l.out;rw[a3]at e;obtain rfl:=c9 be a3;go_wp2_with fail;refine⟨⟨j+1,be,bA,V,b3,e,af,bd⟩,?_⟩;exact bN
      ·have e:=l.out;rw[rB N]at e;have l:=rz e;clear e;have dx:(k==(i:Int))=false:=rA.2 N;by_cases a0:k<0\/(i:Int)<k
       ·obtain rfl:R=none:=by have e:=l.out;rw[rG a0]at e;exact e.symm
        clear l;have cv:(k<0/\decide (k<0)=true)\/(¬k<0/\decide (k<0)=false/\(i:Int)<k/\decide ((i:Int)<k)=true):=by
         by_cases m:k<0;·exact .inl ⟨m,by simp[m]⟩
         ·exact .inr ⟨m,by simp[m],V,by simp;omega⟩
        rcases cv with⟨h,c8⟩|⟨h,c8,d2,d3⟩;all_goals go_wp2_with fail;go_ret;exact⟨rfl,⟨i,K,F,fun r h=>dM⟩,a5⟩
       ·have e:=l.out;rw[rB a0]at e;obtain⟨k,rfl⟩:∃cA:Nat,k=(cA:Int):=⟨k.toNat,V⟩;have dz:k<i:=V;have dp:¬(k:Int)<0:=V;have dr:¬(i:Int)<(k:Int):=V;have ds:(k:Int)<(n:Int):=V;have ck:k<n:=V;rw[su]at e;have l:=rz e;clear e a0;obtain⟨cS,cR,y,_,_,_,_,_,_,_,_,_,_,_,_,aa,a1,b8,⟨a9,_,_,_,_,_,_,_,_,_⟩,_,_,_⟩:=uY b5 ck;obtain⟨rfl,rfl⟩:cS=q/\cR=p:=by injection aa with h;injection h with o t;exact⟨o.symm,t.symm⟩
        clear aa;have e:=l.out;rw[b8]at e;have b2:=vg y.kind wr;have l:=rz e;clear e b8;go_wp2_with fail;refine tZ b2 ?_;clear b2;cases ad:sr y.kind with
        |true=>have e:=l.out;simp only[ad]at e;go_wp2_with fail;refine⟨⟨j+1,i,bA,V,F,e,K,D⟩,?_⟩;exact bN
        |false=>
         have e:=l.out;simp only[ad]at e;obtain rfl:R=none:=by simpa using e.symm
         go_wp2_with fail;go_ret;exact⟨rfl,⟨i,K,F,fun r h=>dM⟩,a5⟩
     ·obtain rfl:j=E:=V;have e:=U.out;rw[tD (by rw[a7.out];omega),AV]at e;subst e;have cj:¬(j:Int)<(j:Int):=V;go_wp2_with fail;go_ret;exact⟨rfl,⟨i,v,F,fun r h=>by injection h with h;exact h.symm⟩,a5⟩
  ·have H:S[at_]? =none:=tu (by rw[b1.out];omega);simp only[ye,H];have cc:(n:Int)<=(at_:Int):=V;go_enter Tryz.func123,Tryz.ntmps123;go_wp2_with fail;go_ret;exact⟨rfl,⟨at_,v,W,fun r h=>dM⟩,sa.refl _ _ _⟩
def Eh(p:afs->Bool)(all:List afs):Nat->List afs->Bool
 |_,[]=>true
 |j,s::r=>p s&& !((all.take j).contains s)&&Eh p all (j+1) r
def CX(p:afs->Bool)(l:List afs):Bool:=Eh p l 0 l
def Ic{w:World}{X:afu}{A:aft}{k n j:Nat}{e:List (List Value)}(h:Row w X k A n e)(t:j<=n):Row w X k A j (e.take j):=⟨by rw[zC,h.len];omega,fun q=>by obtain⟨g,p,l,o,m⟩:=h.pos V;exact⟨g,p,l,o,fun i cs d=>m i cs (by rw[yn]at d;split at d;exact d;cases d)⟩⟩
def Bm(f:Nat)(U:∀args w,(callFunc f args).run Tryz.prog w=.ok (.enter f args) w)(p:afs->Bool)(ks:List afs)(w:World)(X:afu)(A:aft)(n c:Nat)(hr:Row w X 1 A n (uL ks))(F:∀b,X b->b<w.heap.size)(Y:n<=100000000)(Z:n<=c)(E:∀x∈ks,∀w',afv w w'->Calls Tryz.prog f #[.string ⟨x.toArray⟩] w' (vh w' (.bool (p x)))):Calls Tryz.prog 66 #[.slice A n c,.func (.func f) #[] #[]] w (vh w (.bool (CX p ks))):=by
 have L:ks.length=n:=nH;have HL:=rz L;clear L;obtain⟨R,l⟩:=sW (CX p ks);rw[<-l];unfold CX at l;have C:=rz l;clear l;go_enter Tryz.func66,Tryz.ntmps66;go_wp2_with fail;go_loopw [9] (fun z wr=>∃j:Nat,z=.int .i64 j/\j<=n/\R=Eh p ks j (ks.drop j)/\afv w wr) (fun z _=>n-(intOf z).toNat);case atStart=>exact⟨0,rfl,sb _,C.out,Below.refl _ _⟩
 case
  round=>
   obtain⟨j,rfl,S,I,wI⟩:=hrel;have k:=rz I;clear I C;by_cases Dx:j<n
   ·have T:(j:Int)<(n:Int):=V;have v:j<ks.length:=dv;have M:=Row.below hr wI F;obtain⟨g,q,rfl,W,G⟩:=M.pos V;have K:=(G j [sv ks[j]] (by simp[uL,v])).2 0 _ rfl;rw[tL,sE]at K;have N:=Ic M S;have d:=k.out;rw[rM v,Eh]at d;have i:=E ks[j] (sj v) wr wI;have D:(uL ks).take j=uL (ks.take j):=by simp[uL]
    rw[D]at N;have t:=fun w'(hb:afv wr w')=>xJ (c:=c) ks[j] w' (Row.below N hb (fun b hb=>by have:=F b hb;exact j8)) V
    clear G D E;generalize ks[j]=x at*;unfold sv at K;cases y:p x with
    |false=>
     rw[y]at d i;obtain rfl:R=false:=by rw[d];rfl
     clear d k t;go_wp2_with fail;refine sG i fun O m=> ?_
     go_wp2_with fail;go_ret;exact⟨rfl,wI.sY rV m⟩
    |true=>
     rw[y,sk]at d;rw[y]at i;have e:=rz d;clear d k;go_wp2_with fail;refine sG i fun O m=> ?_
     have H:=t O m;clear i t;have vb:=wI.sY rV m;go_wp2_with fail;refine tZ H ?_;clear H;cases o:(ks.take j).contains x with
     |true=>
      have d:=e.out;rw[o]at d;obtain rfl:R=false:=by rw[d];rfl
      clear o d e;exact jV
     |false=>have d:=e.out;rw[o]at d;simp only[xT,sk]at d;have e:=rz d;clear o d;go_wp2_with fail;refine⟨⟨j+1,bA,V,e.out,vb⟩,?_⟩;exact bN
   ·obtain rfl:j=n:=V;have d:=k.out;rw[tD da,Eh]at d;subst d;have T:¬(j:Int)<(j:Int):=V;exact cJ
def Kd(p:afs->Bool)(l:List afs):Bool:=decide (l.length<=40)&&l.all p
def PJ(f:Nat)(G:∀args w,(callFunc f args).run Tryz.prog w=.ok (.enter f args) w)(p:afs->Bool)(ks:List afs)(w:World)(X:afu)(A:aft)(n c:Nat)(hr:Row w X 1 A n (uL ks))(hX:∀b,X b->b<w.heap.size)(C:n<=100000000)(e:∀x∈ks,∀w',afv w w'->Calls Tryz.prog f #[.string ⟨x.toArray⟩] w' (vh w' (.bool (p x)))):Calls Tryz.prog 126 #[.slice A n c,.func (.func f) #[] #[]] w (vh w (.bool (Kd p ks))):=by
 have z:ks.length=n:=nH;have sK:=(afw w).al rV (.cells #[.func (.func f) #[] #[]] 97);have o:(w.alloc (.cells #[.func (.func f) #[] #[]] 97)).cell? (rN w.heap.size 0)=some (.func (.func f) #[] #[]):=bi;have D:=sK.l1;unfold Kd;rw[z];obtain⟨j,d⟩:=sW (decide (n<=40));rw[<-d];have k:=rz d;clear d;obtain⟨R,g⟩:=sW (ks.all p);rw[<-g];have t:=rz g;clear g;go_enter Tryz.func126,Tryz.ntmps126;go_upto_region 1 with fail;generalize w.alloc _=w1 at*;by_cases m:n<=40
 ·have v:(n:Int)<=40:=V;have q:=Be 177 (enters_of Tryz.func177 bm rfl) #[sg w.heap.size] (fun x=> !p x) ks w1 X A n c (Row.below hr sK hX) bq C (fun x E w' i=>
   by
    have y:=e x E w' (sK.sY rV i);have H:=i.cl o D;clear e o i hr;generalize p x=R at*;go_enter Tryz.func177,Tryz.ntmps177;go_wp2_with fail;refine sG y fun F Gu=> ?_
    go_wp2_with fail;go_ret;exact⟨rfl,Gu⟩)
  have l:(ks.any fun x=> !p x)= !(ks.all p):=by rw[Aj];simp
  rw[l,<-t.out]at q;clear e l;obtain rfl:j=true:=by rw[k.out];simp[m]
  go_wp2_with fail;refine sG q fun F Gu=> ?_
  exact oO
 ·have v:¬(n:Int)<=40:=V;obtain rfl:j=false:=by rw[k.out];simp[m]
  exact bL
