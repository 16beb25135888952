import Derived.Test.YtccjlcadbpinfaaGreatDoorX12
set_option linter.all false
set_option maxRecDepth 100000
set_option maxHeartbeats 8000000
namespace Go.Proofs.YtccjlcadbpinfaaGreatDoor.Tp
open ChangeShapes WideShapes ChangeAt RowKit
open Num Mem Can
def sf(k:Int):Bool:=decide (k=9)||decide (k=10)||decide (k=14)
def ve(k:Int)(w:World):Calls Tryz.prog 65 #[.int .i64 k] w fun e w'=>e=.returned (.bool (sf k))/\w=w':=by
 obtain⟨R,d⟩:∃R,R=sf k:=⟨_,rfl⟩;rw[<-d];unfold sf at d;by_cases l:k=9
 ·obtain rfl:R=true:=by rw[d];simp[l]
  subst l;clear d;exact nl
 ·have v:(k==9)=false:=rr.2 l;have o:decide (k=9)=false:=by simp[l]
  by_cases j:k=10
  ·obtain rfl:R=true:=by rw[d];simp[j]
   subst j;clear d;exact nl
  ·have q:(k==10)=false:=rr.2 j;have n:decide (k=10)=false:=by simp[j]
   have m:R=decide (k=14):=by rw[d,o,n];rfl
   have i:=rq m;clear d m;by_cases g:k=14
   ·obtain rfl:R=true:=by rw[i.out];simp[g]
    subst g;clear i;exact nl
   ·have t:(k==14)=false:=rr.2 g;have p:decide (k=14)=false:=by simp[g]
    obtain rfl:R=false:=by rw[i.out];simp[g]
    clear i;exact nl
def WQ(_:World)(_:acO)(cs:List Value)(i:Int):Prop:=cs=[.int .i64 i]
def Rt:Way WQ 1:=⟨fun h _ _=>h,fun h=>by rw[h];rfl,fun h=>by rw[h];exact ep⟩
def D6:(Tryz.prog.info? 3).map (fun i=>(i.zero,i.size,i.bytes))=some (some (.int .i64 0),1,8):=bg
def G4{w:World}{N:acO}{H n c:Nat}{A:acN}{l:List Int}(h:uY WQ 3 1 nS N w H A n c l):Row w (fun b=>H<=b/\b<w.heap.size) 1 A n (yI l):=by
 obtain⟨css,h1,d,e⟩:=h.row Rt V;have e1:css=yI l:=by apply zf (by simp[yI,d]);intro i g j;have:css[i]=[.int .i64 l[i]]:=e i g V;rw[this];simp[yI]
 exact nZ
def ti(x:Nd):List Int:=if x.kind=9 then x.fields.map (·.type)else if x.kind=11\/x.kind=12 then [x.items]else if x.kind=13 then x.rR else []
def Tm(d:List Int):(yI d).flatten=d.map (Value.int .i64):=by
 induction d with
 |nil=>rfl
 |cons a r e=>simp only[yI,uH,tJ]at e|-;rw[e];rfl
def Kj{w:World}{X:acO}{H n c m d:Nat}{A A':acN}{l e:List Int}(ty:TypeId)(h:uY WQ 3 1 nS nS w H A n c l)(F:Row w X 1 A' m (yI e))(a6:n+m<=100000000)(C:H<=w.heap.size):∃A2 c2 w',(Builtin.append_ #[77,77] ty #[.slice A n c,.slice A' m d]).run Tryz.prog w=.ok (.slice A2 (n+m) c2) w'/\uY WQ 3 1 nS nS w' H A2 (n+m) c2 (l++e)/\Below H w w':=by
 obtain⟨a1,k,Y,Z,a0⟩:=xj D6;have W:e.length=m:=by have:=F.len;exact eJ
 have VA:=h.block;obtain⟨css,q,y,h3,K,z⟩:=h;by_cases R:m=0
 ·subst R;have U:e=[]:=rI W;subst U;refine⟨A,c,w,?_,⟨css,by simpa using q,y,ke,K,fun i k O=>by simpa using z i k (by simpa using O)⟩,Below.refl _ _⟩;rcases q.2 with⟨v,hn0⟩|⟨g,cap,cur,v,_,_,S,_⟩;·injection v with e1 e2 e3;subst e1 e2 e3;cases A'<;>simp[Builtin.append_,AX uM,sizeOf,typeInfo,k,Builtin.lenOf,Builtin.firstCells,loadCells,loadCellsFrom]
  ·injection v with e1 e2 e3;subst e1 e3;cases A'<;>simp[Builtin.append_,AX uM,sizeOf,typeInfo,k,Builtin.lenOf,Builtin.firstCells,S,storeCells,loadCells,loadCellsFrom]
 ·obtain⟨g,p,rfl,a5,M⟩:=F.pos V;obtain⟨a2,w',T,g2,I,a3,a4⟩:=uR (P:=Tryz.prog) w H 77 ty 3 a1 (.int .i64 0) 1 8 uM k Y Z a0 rfl bD (.slice A n c) n css.flatten q ⟨g,p,none⟩ m d (e.map (Value.int .i64)) (by rw[sD];omega) (fun j u t=>by rw[xO];obtain⟨hj,t⟩:=rK.1 t;have D:j<e.length:=fu;have:=(M j [.int .i64 e[j]] (by simp[yI,D])).2 0 _ rfl;rw[tv,si]at this;rw[this,<-t];simp) ep de V C;have N:∃A2 c2,a2=.slice A2 (n+m) c2:=cG;obtain⟨A2,c2,rfl⟩:=N;have KH:∀(B:acN)(m d:Nat),(Value.slice B m d).ownBlock=B.map (·.block):=fun B m d=>eq
  refine⟨A2,c2,w',T,⟨css++yI e,by rw[KU,Tm];exact g2,?_,by simp[h3,yI],fun b _ L=>L.elim,?_⟩,vK.grown I C fun b hb=>jd⟩
  ·intro G sW;rcases sl.1 sW with o|o;·exact y G o
   ·unfold yI at o;obtain⟨a,_,rfl⟩:=sR.1 o;rfl
  ·intro j hj D;by_cases E:j<css.length;·rw[vl E,vl V];exact z j E V
   ·rw[tO V,tO V];simp only[yI,Fv,h3];rfl
section
variable{ops:Array Oper}{Q:Exit->Act->World->Prop}{rest:List Oper}{a:Act}{w:World}
def Ky{ty:TypeId}{X:acO}{H n c m d:Nat}{A A':acN}{l k:List Int}{e:Option Tmp}{s x:Operand}{j:String}{g:Array Edge}{i:Option (Nat×Bool)}(t:Region.wanted ⟨e,.call {callee:=.builtin .append,args:= #[s,x],argTypes:= #[77,77]},ty,j,g,i⟩ (yielded ops a.tmps)=true)(hs:a.eval s=.slice A n c)(hx:a.eval x=.slice A' m d)(h:uY WQ 3 1 nS nS w H A n c l)(q:Row w X 1 A' m (yI k))(p:n+m<=100000000)(o:H<=w.heap.size)(hh:∀A2 c2 w',uY WQ 3 1 nS nS w' H A2 (n+m) c2 (l++k)->Below H w w'->wpList Tryz.prog ops Q rest (a.put e (.slice A2 (n+m) c2)) w'):wpList Tryz.prog ops Q (⟨e,.call {callee:=.builtin .append,args:= #[s,x],argTypes:= #[77,77]},ty,j,g,i⟩::rest) a w:=by
 refine tj t fun K hK=> ?_
 obtain⟨A2,c2,w',Il,h2,h3⟩:=Kj ty h q (d:=d) p o;exact dW
end
def wY(w:World)(r:Nat)(x:Nd)(A1:acN)(n1 c1:Nat)(A2:acN)(n2 c2:Nat)(A3:acN)(n3 c3:Nat)(A4:acN)(n4 c4:Nat):Prop:=(w.cell? ⟨r,0,none⟩=some (.int .i64 x.kind)/\w.cell? ⟨r,1,none⟩=some (.string ⟨x.name.toArray⟩)/\w.cell? ⟨r,2,none⟩=some (.slice A1 n1 c1)/\w.cell? ⟨r,3,none⟩=some (.slice A2 n2 c2)/\w.cell? ⟨r,4,none⟩=some (.slice A3 n3 c3)/\w.cell? ⟨r,5,none⟩=some (.bool x.has)/\w.cell? ⟨r,6,none⟩=some (.string ⟨x.sO.toArray⟩)/\w.cell? ⟨r,7,none⟩=some (.int .i64 x.size)/\w.cell? ⟨r,8,none⟩=some (.int .i64 x.items)/\w.cell? ⟨r,9,none⟩=some (.slice A4 n4 c4))/\∀j,w.frozen? ⟨r,j,none⟩=false
section
variable{w w':World}{r B b:Nat}{x:Nd}{A1:acN}{n1 c1:Nat}{A2:acN}{n2 c2:Nat}{A3:acN}{n3 c3:Nat}{A4:acN}{n4 c4:Nat}
def wY.keep(h:wY w r x A1 n1 c1 A2 n2 c2 A3 n3 c3 A4 n4 c4)(d:∀j,w'.cell? ⟨r,j,none⟩=w.cell? ⟨r,j,none⟩)(t:∀j,w'.frozen? ⟨r,j,none⟩=w.frozen? ⟨r,j,none⟩):wY w' r x A1 n1 c1 A2 n2 c2 A3 n3 c3 A4 n4 c4:=by obtain⟨⟨e,g,i,k,l,m,n,o,p,q⟩,v⟩:=h;exact⟨⟨(d 0).trans e,(d 1).trans g,(d 2).trans i,(d 3).trans k,(d 4).trans l,(d 5).trans m,(d 6).trans n,(d 7).trans o,(d 8).trans p,(d 9).trans q⟩,fun j=>(t j).trans (v j)⟩
def wY.below(h:wY w r x A1 n1 c1 A2 n2 c2 A3 n3 c3 A4 n4 c4)(hb:Below B w w')(d:r<B):wY w' r x A1 n1 c1 A2 n2 c2 A3 n3 c3 A4 n4 c4:=h.keep (fun _=>hb.cell d) (fun _=>hb.frozen d)
def wY.off(h:wY w r x A1 n1 c1 A2 n2 c2 A3 n3 c3 A4 n4 c4)(hb:rS b B w w')(e:r<B)(d:r≠b):wY w' r x A1 n1 c1 A2 n2 c2 A3 n3 c3 A4 n4 c4:=h.keep (fun _=>hb.cell e d) (fun _=>hb.frozen e d)
def wY.new(w:World)(x:Nd)(A1:acN)(n1 c1:Nat)(A2:acN)(n2 c2:Nat)(A3:acN)(n3 c3:Nat)(A4:acN)(n4 c4:Nat)(r:Nat)(d:r=w.heap.size):wY (w.alloc (nC x A1 n1 c1 A2 n2 c2 A3 n3 c3 A4 n4 c4)) r x A1 n1 c1 A2 n2 c2 A3 n3 c3 A4 n4 c4:=by subst d;exact⟨⟨bf,bf,bf,bf,bf,bf,bf,bf,bf,bf⟩,fun j=>bf⟩
end
def R0(x:Nd)(A1:acN)(n1 c1:Nat)(A2:acN)(n2 c2:Nat)(A3:acN)(n3 c3:Nat)(A4:acN)(n4 c4:Nat)(w:World)(X:acO)(S:∀b,X b->b<w.heap.size)(U:yJ w X A2 n2 x.fields)(C:Row w X 1 A4 n4 (yI x.rR))(cl:n2<=100000000)(cp:n4<=100000000):Calls Tryz.prog 176 #[(nA x A1 n1 c1 A2 n2 c2 A3 n3 c3 A4 n4 c4)] w fun e w'=>(∃(A:acN)(m c:Nat),e=.returned (.slice A m c)/\m<=100000000/\m<=c/\Row w' (fun b=>w.heap.size<=b/\b<w'.heap.size) 1 A m (yI (ti x)))/\acP w w':=by
 have D:=(acQ w).al rT (nC x A1 n1 c1 A2 n2 c2 A3 n3 c3 A4 n4 c4);have a4:=wY.new w x A1 n1 c1 A2 n2 c2 A3 n3 c3 A4 n4 c4 w.heap.size rfl;have cr:w.heap.size<(w.alloc (nC x A1 n1 c1 A2 n2 c2 A3 n3 c3 A4 n4 c4)).heap.size:=bi;have cc:=U.below D S;have a9:=Row.below C D S;have cj:x.rR.length=n4:=by have:=C.len;exact eJ
 have an:=U.len;have Y:uY WQ 3 1 nS nS (w.alloc (nC x A1 n1 c1 A2 n2 c2 A3 n3 c3 A4 n4 c4)) w.heap.size none 0 0 ([]:List Int):=uY.nil _ _ _ _ _ _ _;obtain⟨R,N⟩:∃R,R=ti x:=⟨_,rfl⟩;rw[<-N];unfold ti at N;have o:=rq N;clear N;go_enter Tryz.func176,Tryz.ntmps176;go_upto_region 1 with fail;generalize w.alloc (nC x A1 n1 c1 A2 n2 c2 A3 n3 c3 A4 n4 c4)=w1 at*;have a7:=a4;obtain⟨⟨b5,b6,b7,b8,b9,be,bj,bk,bn,bp⟩,br⟩:=a7;by_cases l:x.kind=9
 ·have h:=o.out;rw[rv l]at h;have F:=rq h;have b2:(x.kind==9)=true:=tB.2 l;clear h o l;go_wp2_with fail;go_loopw [3,13] (fun b3 Z wr=>∃(j:Nat)(n:acN)(q:Nat),Z=.int .i64 j/\j<=n2/\b3=.slice n j q/\uY WQ 3 1 nS nS wr w.heap.size n j q ((x.fields.take j).map (·.type))/\acP w wr) (fun _ Z _=>n2-(intOf Z).toNat);case atStart=>exact⟨0,none,0,rfl,rO _,rfl,by simpa using Y,D⟩
  case
   round=>
    obtain⟨j,n,q,rfl,ch,rfl,W,C⟩:=hrel;have ar:=C.size;by_cases af:j<n2;·have ci:(j:Int)<(n2:Int):=V;obtain⟨g,p,f,E,M,H,k,i,t,B,m,d,B',L,G,rfl,cf,hx,⟨bs,bv,bx,bz,bO,c5,c6,c7,c8⟩,_,_,_,_⟩:=yY (U.below C S) af;have a0:=W.below Rt ((acQ wr).al rT (fC f E M H k i t B m d B' L G));have a8:=((Below.refl w.heap.size wr).al ar (fC f E M H k i t B m d B' L G));have a1:(x.fields.take (j+1)).map (·.type)=(x.fields.take j).map (·.type)++[f.type]:=j9;have a3:=rq a1;clear a1 hx;go_upto_region 7 with fail;have cz:(wr.alloc (fC f E M H k i t B m d B' L G)).cell? ⟨wr.heap.size,2,none⟩=some (.int .i64 f.type):=bf;have ct:(wr.alloc (fC f E M H k i t B m d B' L G)).heap.size=wr.heap.size+1:=bi;generalize wr.alloc (fC f E M H k i t B m d B' L G)=O at*;have ac:=a0.below Rt ((acQ O).al rT (.cells #[.int .i64 f.type] 3));have ab:=a0.block;go_wp2_with(at_builtin;go_must(refine tX (z:=.int .i64 0) (bytes:=8) (H1:=O.heap.size) (y:=f.type) (cs:=[.int .i64 f.type]) rfl uM D6 rfl V V Rt rfl rfl ac rfl V (fun b hb=>(ab b hb).2.1) (fun b hb=>fA) (fun b hb=>fA) (fun j u hu=>kF) V (by simp;omega) ?_);intro a2 a5 cS ad aa _ _);refine⟨⟨j+1,a2,a5,bi,V,rfl,by rw[a3.out];exact ad,((C.trans a8).trans ((Below.refl w.heap.size O).al V (.cells #[.int .i64 f.type] 3))).trans aa⟩,?_⟩;exact bK
    ·obtain rfl:j=n2:=V;go_wp2_with fail;go_ret;have h:=G4 W;rw[show x.fields.take j=x.fields by rw[<-an,Sa],<-F.out]at h;exact⟨⟨n,j,q,rfl,V,W.cap,h⟩,C⟩
 ·have b2:(x.kind==9)=false:=rr.2 l;by_cases v:x.kind=11\/x.kind=12
  ·have h:=o.out;rw[ru l,rv v]at h;have F:=rq h;have ak:((x.kind==11)=true)\/((x.kind==11)=false/\(x.kind==12)=true):=by
    rcases v with h|h;·exact .inl (tB.2 h)
    ·exact .inr ⟨rr.2 V,tB.2 h⟩
   clear h o l v;rcases ak with a6|⟨a6,c9⟩;all_goals have aU:=Y.below Rt ((acQ w1).al rT (.cells #[.int .i64 x.items] 3));go_wp2_with(at_builtin;go_must(refine tX (z:=.int .i64 0) (bytes:=8) (H1:=w1.heap.size) (y:=x.items) (cs:=[.int .i64 x.items]) rfl uM D6 rfl V V Rt rfl rfl aU rfl V (fun b hb=>by simp at hb) (fun b hb=>fA) (fun b hb=>fA) (fun j u hu=>kF) V (by simp;omega) ?_);intro n q b4 I T _ _);go_ret;have b0:=(D.trans ((Below.refl w.heap.size w1).al V (.cells #[.int .i64 x.items] 3))).trans T;exact⟨⟨n,1,q,rfl,V,I.cap,by rw[F.out];exact G4 I⟩,b0⟩
  ·have cx:(x.kind==11)=false:=rr.2 (fun h=>v (.inl h));have cy:(x.kind==12)=false:=rr.2 (fun h=>v (.inr h));by_cases K:x.kind=13;·have h:=o.out;rw[ru l,ru v,rv K]at h;have b1:(x.kind==13)=true:=tB.2 K;have F:=rq h;clear h o l v K;go_wp2_with(at_builtin;go_must(refine Ky rfl rfl rfl Y a9 V V ?_);intro n q b4 I T);go_ret;have h:=G4 I;have cb:=I.cap;rw[sd,<-F.out,sY]at h;exact⟨⟨n,n4,q,rfl,V,V,h⟩,D.trans T⟩
   ·have b1:(x.kind==13)=false:=rr.2 K;obtain rfl:R=[]:=by rw[o.out,ru l,ru v,ru K]
    clear o;go_wp2_with fail;go_ret;exact⟨⟨none,0,0,rfl,V,rN _,Row.nil _ _ _ _⟩,D⟩
def zm(S:List Nd)(e:Nat->Option Nat):List Int->Nat->Option Nat
 | [],d=>some d
 |k::ks,d=>if k=d then(match e d with|none=>none|some g=>zm S e ks g)else if k<0\/(d:Int)<k then none else if(match S[k.toNat]? with|some y=>sf y.kind|none=>false)then zm S e ks d else none
def wU(S:List Nd):Nat->Nat->Option Nat
 |0,_=>none
 |f+1,at_=>match S[at_]? with|none=>none|some x=>zm S (wU S f) (ti x) (at_+1)
def Vl(w:World)(g:Nat)(A:acN)(n c:Nat)(root:Int)(d:Nat):Prop:=(w.cell? ⟨g,0,none⟩=some (.slice A n c)/\w.cell? ⟨g,1,none⟩=some (.int .i64 root)/\w.cell? ⟨g,2,none⟩=some (.int .i64 (d:Int)))/\∀j,w.frozen? ⟨g,j,none⟩=false
def Vl.below{w w':World}{g B:Nat}{A:acN}{n c:Nat}{root:Int}{e:Nat}(h:Vl w g A n c root e)(hb:Below B w w')(d:g<B):Vl w' g A n c root e:=by obtain⟨⟨i,k,l⟩,m⟩:=h;exact⟨⟨(hb.cell d).trans i,(hb.cell d).trans k,(hb.cell d).trans l⟩,fun j=>(hb.frozen d).trans (m j)⟩
def tV.off{w w':World}{g B:Nat}{X:acO}{A:acN}{n:Nat}{l:List Nd}(h:tV w X A n l)(hb:rS g B w w')(d:∀b,X b->b<B/\b≠g):tV w' X A n l:=h.keep (fun q e=>hb.cell (d _ e).1 (d _ e).2) (fun _ h=>h)
def Xr(g:Nat)(A:acN)(n c:Nat)(root:Int)(B:Nat)(w:World)(R:Option Nat)(e:Ending)(w':World):Prop:=e=.returned (.bool R.isSome)/\(∃d,Vl w' g A n c root d/\d<=n/\∀r,R=some r->r=d)/\rS g B w w'
def UM(S:List Nd)(g:Nat)(A:acN)(n c:Nat)(root:Int)(X:acO)(e5:n<=100000000):∀(f at_:Nat)(d:Int)(w:World),d+f=33->0<=d->Vl w g A n c root at_->at_<=n->tV w X A n S->g<w.heap.size->(∀b,X b->b<w.heap.size/\b≠g)->Calls Tryz.prog 123 #[.pointer (some ⟨g,0,none⟩),.int .i64 d] w (Xr g A n c root w.heap.size w (wU S f at_)):=by
 intro f;induction f with
 |zero=>intro at_ d w ci ch G W O ak C;have v:=G;obtain⟨⟨m,o,t⟩,z⟩:=G;obtain rfl:d=33:=V;by_cases Z:(n:Int)<=(at_:Int);all_goals go_enter Tryz.func123,Tryz.ntmps123;go_wp2_with fail;go_ret;exact⟨rfl,⟨at_,v,W,fun r h=>bX⟩,rS.refl _ _ _⟩
 |succ f d0=>
  intro at_ d w ci ch G W O ak C;have v:=G;obtain⟨⟨m,o,t⟩,z⟩:=G;have b0:=rq O.len;by_cases Z:at_<n
  ·obtain⟨R,I⟩:∃R,R=wU S (f+1) at_:=⟨_,rfl⟩;rw[<-I];obtain⟨x,H⟩:∃x,S[at_]? =some x:=⟨_,ry (by rw[b0.out];exact Z)⟩;have a8:=rq H;simp only[wU,H]at I;have bn:=rq I;clear I H;have cf:¬(n:Int)<=(at_:Int):=V;have dj:(at_:Int)<(n:Int):=V;have dI:¬(32:Int)<d:=V;have dB:wrap64 (d+1)=d+1:=tG V V;go_enter Tryz.func123,Tryz.ntmps123;go_upto_region 5 with fail;have bp:Vl (w.setCell ⟨g,2,none⟩ (.int .i64 ((at_:Int)+1))) g A n c root (at_+1):=⟨⟨bf,bf,bf⟩,fun j=>by have:=z j;go_simp⟩;have hz1:=(rS.refl g w.heap.size w).setAt 2 (.int .i64 ((at_:Int)+1));have b5:g<(w.setCell ⟨g,2,none⟩ (.int .i64 ((at_:Int)+1))).heap.size:=by simpa using ak
   clear m o t z v;generalize w.setCell ⟨g,2,none⟩ (.int .i64 ((at_:Int)+1))=w1 at*;have a2:=O.off hz1 C;have L:∀b,X b->b<w1.heap.size/\b≠g:=fun b hb=>⟨by have:=C b hb;exact jM,(C b hb).2⟩
   obtain⟨q,p,x',A1,n1,c1,A2,n2,c2,A3,n3,c3,A4,n4,c4,rfl,a1,a4,⟨a9,bs,bv,bx,bz,bO,c5,c6,c7,c8⟩,⟨d5,bj,d6,bk⟩,⟨dk,dp,dr,ds⟩,e6,ct,e7,cx⟩:=uW a2 Z;obtain rfl:x=x':=by rw[a8.out]at a4;injection a4
   clear a4 a8;have ab:=R0 x A1 n1 c1 A2 n2 c2 A3 n3 c3 A4 n4 c4 w1 X (fun b hb=>(L b hb).1) bj bk ct cx;clear d5 bj d6 bk;obtain⟨⟨m,o,t⟩,z⟩:=bp;go_wp2_with fail;refine ab.mono ?_;rintro e' T ⟨⟨d8,E,d9,rfl,e3,e4,b3⟩,M⟩;clear ab;have br:=Vl.below (w:=w1) ⟨⟨m,o,t⟩,z⟩ M b5;have b8:=hz1.trans ((rS.of (M.mono (B':=w.heap.size) jM):rS g w.heap.size w1 T));have cz:=a2.below M (fun b hb=>(L b hb).1);have e9:=M.size;clear a9 bs bv bx bz bO c5 c6 c7 c8 m o t z a2 O;generalize cs:ti x=ks at*;have aU:ks.length=E:=by have:=b3.len;exact eJ
   clear cs a1;have a7:=rq aU;clear aU;have di:g<w1.heap.size:=b5;go_wp2_with fail;go_loopw [44] (fun a6 wr=>∃(j i:Nat),a6=.int .i64 j/\j<=E/\i<=n/\zm S (wU S f) (ks.drop j) i=R/\Vl wr g (some ⟨q,p,none⟩) n c root i/\rS g T.heap.size T wr) (fun a6 _=>E-(intOf a6).toNat);case atStart=>exact⟨0,at_+1,rfl,rO _,V,bn.out.symm,br,rS.refl _ _ _⟩
   case
    round=>
     obtain⟨j,i,rfl,dK,F,b6,v,D⟩:=hrel;have U:=rq b6;clear b6;have ea:=D.size;have b4:=cz.off D (fun b hb=>⟨by have:=L b hb;omega,(C b hb).2⟩);have cc:∀b,X b->b<wr.heap.size/\b≠g:=fun b hb=>⟨by have:=L b hb;omega,(C b hb).2⟩
     have a5:=b8.trans (D.mono (B':=w.heap.size) jM);by_cases cj:j<E
     ·have cl:(j:Int)<(E:Int):=V;obtain⟨ef,eb,rfl,e8,af⟩:=(b3.keep (w':=wr) (Y:=fun b=>w1.heap.size<=b/\b<T.heap.size) (fun q a1=>D.cell V V) (fun _ h=>h)).pos V;have ar:j<ks.length:=by rw[a7.out];exact cj
      have cr:=(af j [.int .i64 ks[j]] (by simp[yI,ar])).2 0 _ rfl;rw[tv,si]at cr;have e:=U.out;rw[rH ar,zm]at e;clear af;generalize ks[j]=k at*;have l:=rq e;clear e U;have K:=v;obtain⟨⟨m,o,t⟩,z⟩:=v;by_cases N:k=(i:Int)
      ·have e:=l.out;rw[rv N]at e;subst N;have l:=rq e;clear e;have an:=d0 i (d+1) wr V V K F b4 V cc;have dz:∀b:Bool,((i:Int)==(i:Int))=true:=fun _=>bi
       go_wp2_with fail;refine an.mono ?_;rintro e' d7 ⟨rfl,⟨d2,ad,b2,cb⟩,cS⟩;clear an;have b9:=D.trans (cS.mono V);cases a3:wU S f i with
       |none=>have e:=l.out;rw[a3]at e;subst e;go_wp2_with fail;go_ret;exact⟨rfl,⟨d2,ad,b2,fun r h=>bX⟩,b8.trans (b9.mono jM)⟩
       |some be=>have e:=l.out;rw[a3]at e;obtain rfl:=cb be a3;go_wp2_with fail;refine⟨⟨j+1,be,bi,V,b2,e,ad,b9⟩,?_⟩;exact bK
      ·have e:=l.out;rw[ru N]at e;have l:=rq e;clear e;have e1:(k==(i:Int))=false:=rr.2 N;by_cases a0:k<0\/(i:Int)<k
       ·obtain rfl:R=none:=by have e:=l.out;rw[rv a0]at e;exact e.symm
        clear l;have cy:(k<0/\decide (k<0)=true)\/(¬k<0/\decide (k<0)=false/\(i:Int)<k/\decide ((i:Int)<k)=true):=by
         by_cases m:k<0;·exact .inl ⟨m,by simp[m]⟩
         ·exact .inr ⟨m,by simp[m],V,by simp;omega⟩
        rcases cy with⟨h,c9⟩|⟨h,c9,dd,df⟩;all_goals go_wp2_with fail;go_ret;exact⟨rfl,⟨i,K,F,fun r h=>bX⟩,a5⟩
       ·have e:=l.out;rw[ru a0]at e;obtain⟨k,rfl⟩:∃d1:Nat,k=(d1:Int):=⟨k.toNat,V⟩;have e2:k<i:=V;have dM:¬(k:Int)<0:=V;have dN:¬(i:Int)<(k:Int):=V;have e0:(k:Int)<(n:Int):=V;have cp:k<n:=V;rw[rW]at e;have l:=rq e;clear e a0;obtain⟨d4,d3,y,_,_,_,_,_,_,_,_,_,_,_,_,aa,a1,b7,⟨a9,_,_,_,_,_,_,_,_,_⟩,_,_,_⟩:=uW b4 cp;obtain⟨rfl,rfl⟩:d4=q/\d3=p:=by injection aa with h;injection h with o t;exact⟨o.symm,t.symm⟩
        clear aa;have e:=l.out;rw[b7]at e;have b1:=ve y.kind wr;have l:=rq e;clear e b7;go_wp2_with fail;refine b1.mono ?_;rintro e' d7 ⟨rfl,rfl⟩;clear b1;cases ac:sf y.kind with
        |true=>have e:=l.out;simp only[ac]at e;go_wp2_with fail;refine⟨⟨j+1,i,bi,V,F,e,K,D⟩,?_⟩;exact bK
        |false=>
         have e:=l.out;simp only[ac]at e;obtain rfl:R=none:=by simpa using e.symm
         go_wp2_with fail;go_ret;exact⟨rfl,⟨i,K,F,fun r h=>bX⟩,a5⟩
     ·obtain rfl:j=E:=V;have e:=U.out;rw[th (by rw[a7.out];omega),zm]at e;subst e;have cl:¬(j:Int)<(j:Int):=V;go_wp2_with fail;go_ret;exact⟨rfl,⟨i,v,F,fun r h=>by injection h with h;exact h.symm⟩,a5⟩
  ·have H:S[at_]? =none:=ta (by rw[b0.out];omega);simp only[wU,H];have cf:(n:Int)<=(at_:Int):=V;go_enter Tryz.func123,Tryz.ntmps123;go_wp2_with fail;go_ret;exact⟨rfl,⟨at_,v,W,fun r h=>bX⟩,rS.refl _ _ _⟩
def DP(p:acM->Bool)(all:List acM):Nat->List acM->Bool
 |_,[]=>true
 |j,s::r=>p s&& !((all.take j).contains s)&&DP p all (j+1) r
def Cg(p:acM->Bool)(l:List acM):Bool:=DP p l 0 l
def Ht{w:World}{X:acO}{A:acN}{k n j:Nat}{css:List (List Value)}(h:Row w X k A n css)(q:j<=n):Row w X k A j (css.take j):=⟨by rw[xx,h.len];omega,fun o=>by obtain⟨g,p,e,m,l⟩:=h.pos V;exact⟨g,p,e,m,fun i cs d=>l i cs (by rw[xP]at d;split at d;exact d;cases d)⟩⟩
def AR(f:Nat)(Z:∀args w,(callFunc f args).run Tryz.prog w=.ok (.enter f args) w)(p:acM->Bool)(ks:List acM)(w:World)(X:acO)(A:acN)(n c:Nat)(hr:Row w X 1 A n (uF ks))(G:∀b,X b->b<w.heap.size)(a1:n<=100000000)(a2:n<=c)(F:∀x∈ks,∀w',acP w w'->Calls Tryz.prog f #[.string ⟨x.toArray⟩] w' fun e Y=>e=.returned (.bool (p x))/\acP w' Y):Calls Tryz.prog 66 #[.slice A n c,.func (.func f) #[] #[]] w fun e w'=>e=.returned (.bool (Cg p ks))/\acP w w':=by
 have N:ks.length=n:=mQ;have HL:=rq N;clear N;obtain⟨R,m⟩:∃R,R=Cg p ks:=⟨_,rfl⟩;rw[<-m];unfold Cg at m;have D:=rq m;clear m;go_enter Tryz.func66,Tryz.ntmps66;go_wp2_with fail;go_loopw [9] (fun C wr=>∃j:Nat,C=.int .i64 j/\j<=n/\R=DP p ks j (ks.drop j)/\acP w wr) (fun C _=>n-(intOf C).toNat);case atStart=>exact⟨0,rfl,rO _,D.out,Below.refl _ _⟩
 case
  round=>
   obtain⟨j,rfl,U,L,vu⟩:=hrel;have l:=rq L;clear L D;by_cases Ar:j<n
   ·have W:(j:Int)<(n:Int):=V;have y:j<ks.length:=cZ;have O:=Row.below hr vu G;obtain⟨g,q,rfl,a0,I⟩:=O.pos V;have M:=(I j [sv ks[j]] (by simp[uF,y])).2 0 _ rfl;rw[tv,si]at M;have S:=Ht O U;have d:=l.out;rw[rH y,DP]at d;have k:=F ks[j] (rY y) wr vu;have E:(uF ks).take j=uF (ks.take j):=by simp[uF]
    rw[E]at S;have v:=fun w'(hb:acP wr w')=>yc (c:=c) ks[j] w' (Row.below S hb (fun b hb=>by have:=G b hb;exact jq)) V
    clear I E F;generalize ks[j]=x at*;unfold sv at M;cases z:p x with
    |false=>
     rw[z]at d k;obtain rfl:R=false:=by rw[d];rfl
     clear d l v;go_wp2_with fail;refine k.mono ?_;rintro e' T ⟨rfl,o⟩;go_wp2_with fail;go_ret;exact⟨rfl,vu.sV rT o⟩
    |true=>
     rw[z,rU]at d;rw[z]at k;have i:=rq d;clear d l;go_wp2_with fail;refine k.mono ?_;rintro e' T ⟨rfl,o⟩;have K:=v T o;clear k v;have H:=vu.sV rT o;go_wp2_with fail;refine K.mono ?_;rintro e' a3 ⟨rfl,rfl⟩;clear K;cases t:(ks.take j).contains x with
     |true=>
      have d:=i.out;rw[t]at d;obtain rfl:R=false:=by rw[d];rfl
      clear t d i;go_wp2_with fail;go_ret;exact⟨rfl,H⟩
     |false=>have d:=i.out;rw[t]at d;simp only[xw,rU]at d;have i:=rq d;clear t d;go_wp2_with fail;refine⟨⟨j+1,bi,V,i.out,H⟩,?_⟩;exact bK
   ·obtain rfl:j=n:=V;have d:=l.out;rw[th cK,DP]at d;subst d;have W:¬(j:Int)<(j:Int):=V;exact bW
def Ie(p:acM->Bool)(l:List acM):Bool:=decide (l.length<=40)&&l.all p
def OB(f:Nat)(K:∀args w,(callFunc f args).run Tryz.prog w=.ok (.enter f args) w)(p:acM->Bool)(ks:List acM)(w:World)(X:acO)(A:acN)(n c:Nat)(hr:Row w X 1 A n (uF ks))(hX:∀b,X b->b<w.heap.size)(E:n<=100000000)(i:∀x∈ks,∀w',acP w w'->Calls Tryz.prog f #[.string ⟨x.toArray⟩] w' fun e H=>e=.returned (.bool (p x))/\acP w' H):Calls Tryz.prog 126 #[.slice A n c,.func (.func f) #[] #[]] w fun e w'=>e=.returned (.bool (Ie p ks))/\acP w w':=by
 have D:ks.length=n:=mQ;have tm:=(acQ w).al rT (.cells #[.func (.func f) #[] #[]] 97);have t:(w.alloc (.cells #[.func (.func f) #[] #[]] 97)).cell? ⟨w.heap.size,0,none⟩=some (.func (.func f) #[] #[]):=bf;have F:w.heap.size<(w.alloc (.cells #[.func (.func f) #[] #[]] 97)).heap.size:=bi;unfold Ie;rw[D];obtain⟨d,g⟩:∃d,d=decide (n<=40):=⟨_,rfl⟩;rw[<-g];have m:=rq g;clear g;obtain⟨R,j⟩:∃R,R=ks.all p:=⟨_,rfl⟩;rw[<-j];have y:=rq j;clear j;go_enter Tryz.func126,Tryz.ntmps126;go_upto_region 1 with fail;generalize w.alloc (.cells #[.func (.func f) #[] #[]] 97)=w1 at*;by_cases q:n<=40
 ·have z:(n:Int)<=40:=V;have v:=zb 177 (enters_of Tryz.func177 bg rfl) #[.pointer (some ⟨w.heap.size,0,none⟩)] (fun x=> !p x) ks w1 X A n c (Row.below hr tm hX) (fun b hb=>bl) E (fun x G w' k=>by have C:=i x G w' (tm.sV rT k);have L:=(k.cell (p:=⟨w.heap.size,0,none⟩) F).trans t;clear i t k hr;generalize p x=R at*;go_enter Tryz.func177,Tryz.ntmps177;go_wp2_with fail;refine C.mono ?_;rintro e' I ⟨rfl,l⟩;go_wp2_with fail;go_ret;exact⟨rfl,l⟩);have o:(ks.any fun x=> !p x)= !(ks.all p):=by rw[zR];simp
  rw[o,<-y.out]at v;clear i o;obtain rfl:d=true:=by rw[m.out];simp[q]
  go_wp2_with fail;refine v.mono ?_;rintro e' I ⟨rfl,l⟩;go_wp2_with fail;go_ret;exact⟨bi,tm.sV rT l⟩
 ·have z:¬(n:Int)<=40:=V;obtain rfl:d=false:=by rw[m.out];simp[q]
  exact bL
