import Derived.Test.YtccjlcadbpinfaaGreatDoorX9
import Derived.Test.YtccjlcadbpinfaaGreatDoorX8
set_option linter.all false
set_option maxRecDepth 100000
set_option maxHeartbeats 16000000
namespace Go.Proofs.YtccjlcadbpinfaaGreatDoor.Tp
open ChangeShapes WideShapes ChangeAt RowKit
open Num Mem Can
def Bx(w:World)(r:Nat)(vs:List Value):Prop:=∃t,w.heap[r]? =some (.cells vs.toArray t (0,0))
section
variable{w w':World}{r:Nat}{vs:List Value}
def Bx.new(w:World)(vs:Array Value)(t:TypeId)(r:Nat)(d:r=w.heap.size):Bx (w.alloc (.cells vs t)) r vs.toList:=⟨t,by rw[d];exact Ky w _⟩
def Bx.AA(h:Bx w r vs)(hb:w'.heap[r]? =w.heap[r]?):Bx w' r vs:=by obtain⟨t,h⟩:=h;exact⟨t,hb.trans h⟩
def Bx.below{B:Nat}(h:Bx w r vs)(hb:Below B w w')(d:r<B):Bx w' r vs:=h.AA (hb.block r d)
def Bx.off{B g:Nat}(h:Bx w r vs)(hb:sa g B w w')(e:r<B)(d:r≠g):Bx w' r vs:=h.AA (hb.block r e d)
def Bx.set(h:Bx w r vs)(j:Nat)(v:Value):Bx (w.setCell ⟨r,j,none⟩ v) r (vs.set j v):=by obtain⟨t,h⟩:=h;exact⟨t,by rw[heap_setCell_same w r j _ t v h];simp⟩
def Bx.c(h:Bx w r vs)(j:Nat)(v:Value)(hj:vs[j]? =some v):w.cell? (rN r j)=some v:=by obtain⟨t,h⟩:=h;rw[AO w r j _ t (0,0) h];exact fK
def Bx.f(h:Bx w r vs)(j:Nat):w.frozen? (rN r j)=false:=by obtain⟨t,h⟩:=h;exact frozen_of_row w r j _ t h
def Bx.xe{a b c d e:Value}(h:Bx w r [a,b,c,d,e]):w.cell? (rN r 0)=some a/\w.cell? (rN r 1)=some b/\w.cell? (rN r 2)=some c/\w.cell? (rN r 3)=some d/\w.cell? (rN r 4)=some e/\∀j,w.frozen? (rN r j)=false:=⟨h.c 0 a rfl,h.c 1 b rfl,h.c 2 c rfl,h.c 3 d rfl,h.c 4 e rfl,h.f⟩
def Bx.at9{a b c d e f g i j:Value}(h:Bx w r [a,b,c,d,e,f,g,i,j]):w.cell? (rN r 0)=some a/\w.cell? (rN r 1)=some b/\w.cell? (rN r 2)=some c/\w.cell? (rN r 3)=some d/\w.cell? (rN r 4)=some e/\w.cell? (rN r 5)=some f/\w.cell? (rN r 6)=some g/\w.cell? (rN r 7)=some i/\w.cell? (rN r 8)=some j/\∀j,w.frozen? (rN r j)=false:=⟨h.c 0 a rfl,h.c 1 b rfl,h.c 2 c rfl,h.c 3 d rfl,h.c 4 e rfl,h.c 5 f rfl,h.c 6 g rfl,h.c 7 i rfl,h.c 8 j rfl,h.f⟩
def Bx.xX{a b c d e f g i j k:Value}(h:Bx w r [a,b,c,d,e,f,g,i,j,k]):w.cell? (rN r 0)=some a/\w.cell? (rN r 1)=some b/\w.cell? (rN r 2)=some c/\w.cell? (rN r 3)=some d/\w.cell? (rN r 4)=some e/\w.cell? (rN r 5)=some f/\w.cell? (rN r 6)=some g/\w.cell? (rN r 7)=some i/\w.cell? (rN r 8)=some j/\w.cell? (rN r 9)=some k/\∀j,w.frozen? (rN r j)=false:=⟨h.c 0 a rfl,h.c 1 b rfl,h.c 2 c rfl,h.c 3 d rfl,h.c 4 e rfl,h.c 5 f rfl,h.c 6 g rfl,h.c 7 i rfl,h.c 8 j rfl,h.c 9 k rfl,h.f⟩
end
section
variable{e:TypeId}{k bytes B:Nat}{a w:World}{r:Nat}{vs:Array Value}{t:TypeId}{d:Go.Obj}
def Bx.xw{a b c d e f:Value}(h:Bx w r [a,b,c,d,e,f]):w.cell? (rN r 0)=some a/\w.cell? (rN r 1)=some b/\w.cell? (rN r 2)=some c/\w.cell? (rN r 3)=some d/\w.cell? (rN r 4)=some e/\w.cell? (rN r 5)=some f/\∀j,w.frozen? (rN r j)=false:=⟨h.c 0 a rfl,h.c 1 b rfl,h.c 2 c rfl,h.c 3 d rfl,h.c 4 e rfl,h.c 5 f rfl,h.f⟩
def Kb(p:afu)(_:Nat)(w w':World):Prop:=∀b,p b->w'.heap[b]? =w.heap[b]?
def Kb.keeps(p:afu):Aq (Kb p):=⟨fun _ _ _ _=>rfl,fun h k b hb=>(k b hb).trans (h b hb),fun h _=>h⟩
def Kb.cell{p:afu}{d:Nat}{w w':World}(h:Kb p d w w'){q:Addr}(e:p q.block):w'.cell? q=w.cell? q:=rK (w:=w) (h _ e)
def Kb.below{p:afu}{d:Nat}{w w':World}(e:∀b,p b->b<w.heap.size)(h:afv w w'):Kb p d w w':=fun b hb=>h.block b (e b hb)
def Kb.DZ{p:afu}{e:Nat}{w w':World}{A:aft}(d:∀b,p b->b<w.heap.size/\A.map (·.block)≠some b)(h:Lu A w w'):Kb p e w w':=fun b hb=>h.2 b (d b hb).1 (d b hb).2
def _root_.Go.RowKit.Below.yg(_:Below B a (w.alloc (.cells vs t))):Bx (w.alloc (.cells vs t)) w.heap.size vs.toList:=Bx.new w vs t w.heap.size rfl
def _root_.Go.RowKit.Below.I8(_:Below B a ((w.alloc (.cells vs t)).alloc d)):Bx ((w.alloc (.cells vs t)).alloc d) w.heap.size vs.toList:=(Bx.new w vs t w.heap.size rfl).below ((Below.refl (w.heap.size+1) (w.alloc (.cells vs t))).al bA d) V
def _root_.Go.RowKit.Below.Kj(_:Below B a ((w.alloc d).alloc (.cells vs t))):Bx ((w.alloc d).alloc (.cells vs t)) (w.heap.size+1) vs.toList:=Bx.new (w.alloc d) vs t (w.heap.size+1) bA
def PY{k:Nat}:∀(l:List (List Value))(j:Nat)(u:Value),(∀cs∈l,cs.length=k)->l.flatten[j]? =some u->∃i cs q,l[i]? =some cs/\cs[q]? =some u/\j=i*k+q
 | [],j,u,_,h=>ic
 |a::l,j,u,d,h=>
 by
  have m:=d a bA;rw[vo]at h;by_cases p:j<k;·rw[D8 V]at h;exact⟨0,a,j,rfl,h,V⟩
  ·rw[zg V,m]at h;obtain⟨i,cs,q,e,g,o⟩:=PY l (j-k) u (fun cs hc=>d cs lC) h;exact⟨i+1,cs,q,by simpa using e,g,by rw[zF];omega⟩
def Jk{k:Nat}:∀(l:List (List Value)),(∀cs∈l,cs.length=k)->l.flatten.length=l.length*k
 | [],_=>bA
 |a::l,d=>by rw[vo,rL,d a bA,Jk l (fun cs hc=>d cs lC),rP,zF];omega
def Row.Dp{X:afu}{k:Nat}{A:aft}{n:Nat}{d:List (List Value)}(h:Row w X k A n d):∀cs∈d,cs.length=k:=by intro cs e;have m:=h.len;have o:0<d.length:=Bh e;obtain⟨g,p,_,_,j⟩:=h.pos V;obtain⟨i,l⟩:=CA e;exact(j i cs l).1
def Bo(e:TypeId)(k bytes:Nat):Prop:=(Tryz.prog.info? e).map (fun i=>(i.zero.map (fun z=>z.cells.size),i.size,i.bytes))=some (some k,k,bytes)
def Bo.parts(h:Bo e k bytes):∃i z,Tryz.prog.info? e=some i/\i.zero=some z/\z.cells.size=k/\i.size=k/\i.bytes=bytes:=by obtain⟨i,g,d⟩:=vq.1 h;simp only[Prod.mk.injEq]at d;obtain⟨z,j,l⟩:=vq.1 d.1;exact⟨i,z,g,j,l,d.2.1,d.2.2⟩
def MT{X:afu}{t e:TypeId}{k bytes:Nat}(ty:TypeId)(B:Tryz.prog.underlying t=some (.slice e))(W:Bo e k bytes)(Y:0<k)(hb:bytes<=1000){H c m d:Nat}{A A':aft}{l:List (List Value)}(h:w.ownsRow H e k (.slice A 0 c) 0 [])(x:Row w X k A' m l)(a1:∀cs∈l,∀u∈cs,u.oneCell'=true)(ad:m<=100000000)(E:H<=w.heap.size):∃o c2 w',(Builtin.append_ #[t,t] ty #[.slice A 0 c,.slice A' m d]).run Tryz.prog w=.ok (.slice o m c2) w'/\w'.ownsRow H e k (.slice o m c2) m l.flatten/\Below H w w':=by
 obtain⟨i,z,y,a4,a5,a3,O⟩:=W.parts;have F:=x.len;by_cases Z:m=0
 ·subst Z;have S:l=[]:=rT F;subst S;refine⟨A,c,w,?_,h,Below.refl _ _⟩;rcases h.2 with⟨C,a0⟩|⟨g,cap,I,C,_,_,af,_⟩;·injection C with e1 e2 e3;subst e1 e3;cases A'<;>simp[Builtin.append_,Bt B,sizeOf,typeInfo,y,Builtin.lenOf,Builtin.firstCells,loadCells,loadCellsFrom]
  ·injection C with e1 e2 e3;subst e1 e3;cases A'<;>simp[Builtin.append_,Bt B,sizeOf,typeInfo,y,Builtin.lenOf,Builtin.firstCells,storeCells,loadCells,loadCellsFrom]
 ·obtain⟨g,p,rfl,ab,R⟩:=x.pos V;obtain⟨a6,w',a2,D,K,a9,aa⟩:=vu (P:=Tryz.prog) w H t ty e i z k bytes B y a4 a3 O a5 Y (.slice A 0 c) 0 [] h ⟨g,p,none⟩ m d l.flatten (by rw[Jk l x.Dp,F]) (fun j u v=>by obtain⟨i,cs,q,L,M,N⟩:=PY l j u x.Dp v;rw[yl,N];exact(R i cs L).2 q u M) (fun u v=>by obtain⟨cs,T,v⟩:=List.mem_flatten.1 v;exact a1 cs T u v) dD (by have:(0+m)*bytes<=(0+m)*1000:=Nat.mul_le_mul_left _ hb;omega) E;have U:∃o c2,a6=.slice o m c2:=by
   rcases D.2 with⟨_,a0⟩|⟨a8,a7,I,rfl,_⟩;·omega
   ·exact⟨_,_,by rw[tq]⟩
  obtain⟨o,c2,rfl⟩:=U;refine⟨o,c2,w',a2,by simpa using D,xn.grown K E fun b hb=> ?_⟩;cases A with
  |none=>simp[Value.ownBlock]at hb
  |some G=>have:=World.ownsRow.lt h G.block rfl;simp only[Value.ownBlock,sq]at hb;omega
end
section
variable{ops:Array Oper}{Q:Exit->Act->World->Prop}{rest:List Oper}{a:Act}{w:World}
def zT{j:Option Tmp}{s x:Operand}{ty t e:TypeId}{p:String}{l:Array Edge}{o:Option (Nat×Bool)}(E:Region.wanted ⟨j,.call {callee:=.builtin .append,args:= #[s,x],argTypes:= #[t,t]},ty,p,l,o⟩ (yielded ops a.tmps)=true){X:afu}{k bytes:Nat}(D:Tryz.prog.underlying t=some (.slice e))(v:Bo e k bytes)(y:0<k)(hb:bytes<=1000){H c m d:Nat}{A A':aft}{g:List (List Value)}(hs:a.eval s=.slice A 0 c)(hx:a.eval x=.slice A' m d)(h:w.ownsRow H e k (.slice A 0 c) 0 [])(C:Row w X k A' m g)(B:∀cs∈g,∀u∈cs,u.oneCell'=true)(z:m<=100000000)(q:H<=w.heap.size)(hh:∀A2 c2 w',w'.ownsRow H e k (.slice A2 m c2) m g.flatten->Below H w w'->wpList Tryz.prog ops Q rest (a.put j (.slice A2 m c2)) w'):wpList Tryz.prog ops Q (⟨j,.call {callee:=.builtin .append,args:= #[s,x],argTypes:= #[t,t]},ty,p,l,o⟩::rest) a w:=by
 refine tG E fun K hK=> ?_
 obtain⟨A2,c2,w',IS,h2,h3⟩:=MT (w:=w) ty D v y hb h C B z q (d:=d);exact ez
end
section
variable(l:List Int){cs:List Value}{w:World}{H:Nat}{w':World}{d m k i j q r B n:Nat}{e g o:List (List Value)}
def GO(e:TypeId)(k n:Nat)(h:List (List Value))(w:World)(g:Ending)(w':World):Prop:=∃d c1,g=.returned (.slice d n c1)/\w'.ownsRow w.heap.size e k (.slice d n c1) n h.flatten/\afv w w'
def Ah{e:TypeId}{k n c:Nat}{A:aft}{xs:List Value}(h:w.ownsRow H e k (.slice A n c) n xs):n<=c:=dV
def Z2:Bo 9 1 16:=gG
def Ap(w:World)(X:afu)(A:aft)(n c:Nat)(d:List (List Value))(hr:Row w X 1 A n d)(o:∀cs∈d,∀u∈cs,u.oneCell'=true)(l:n<=100000000)(e:∀b,X b->b<w.heap.size):Calls Tryz.prog 76 #[.slice A n c] w (GO 9 1 n d w):=by
 have x:∀(w:World)(a:aft)(n c n' c':Nat),(binOp .eql 25 (.slice a n c) (.slice none n' c')).run Tryz.prog w=.ok (.bool a.isNone) w:=fun w a n c n' c'=>yI w _ _ a n c n' c' ub
 have q:=Row.below hr ((afw w).al rV (.cells #[] 9)) e;cases A with
 |none=>have m:n=0:=cH;subst m;have j:d=[]:=rT hr.len;subst j;go_enter Tryz.func76,Tryz.ntmps76;exact cX
 |some v=>have sK:=(afw w).al rV (.cells #[] 9);go_enter Tryz.func76,Tryz.ntmps76;go_wp2_with(at_builtin;go_must(refine zT (H:=w.heap.size) rfl ub Z2 V V rfl rfl (Aw w #[] 0 rV (sb _) rfl) q o l bA ?_);intro A2 c2 y Nt Gu);exact eN
def ZZ:Bo 3 1 8:=gG
def Nw(w:World)(X:afu)(A:aft)(n c:Nat)(d:List (List Value))(hr:Row w X 1 A n d)(o:∀cs∈d,∀u∈cs,u.oneCell'=true)(l:n<=100000000)(e:∀b,X b->b<w.heap.size):Calls Tryz.prog 78 #[.slice A n c] w (GO 3 1 n d w):=by
 have x:∀(w:World)(a:aft)(n c n' c':Nat),(binOp .eql 77 (.slice a n c) (.slice none n' c')).run Tryz.prog w=.ok (.bool a.isNone) w:=fun w a n c n' c'=>yI w _ _ a n c n' c' ud
 have q:=Row.below hr ((afw w).al rV (.cells #[] 3)) e;cases A with
 |none=>have m:n=0:=cH;subst m;have j:d=[]:=rT hr.len;subst j;go_enter Tryz.func78,Tryz.ntmps78;exact cX
 |some v=>have sK:=(afw w).al rV (.cells #[] 3);go_enter Tryz.func78,Tryz.ntmps78;go_wp2_with(at_builtin;go_must(refine zT (H:=w.heap.size) rfl ud ZZ V V rfl rfl (Aw w #[] 0 rV (sb _) rfl) q o l bA ?_);intro A2 c2 y Nt Gu);exact eN
def Z0:Bo 60 5 80:=gG
def Nx(w:World)(X:afu)(A:aft)(n c:Nat)(d:List (List Value))(hr:Row w X 5 A n d)(o:∀cs∈d,∀u∈cs,u.oneCell'=true)(l:n<=100000000)(e:∀b,X b->b<w.heap.size):Calls Tryz.prog 139 #[.slice A n c] w (GO 60 5 n d w):=by
 have x:∀(w:World)(a:aft)(n c n' c':Nat),(binOp .eql 58 (.slice a n c) (.slice none n' c')).run Tryz.prog w=.ok (.bool a.isNone) w:=fun w a n c n' c'=>yI w _ _ a n c n' c' tQ
 have q:=Row.below hr ((afw w).al rV (.cells #[] 60)) e;cases A with
 |none=>have m:n=0:=cH;subst m;have j:d=[]:=rT hr.len;subst j;go_enter Tryz.func139,Tryz.ntmps139;exact cX
 |some v=>have sK:=(afw w).al rV (.cells #[] 60);go_enter Tryz.func139,Tryz.ntmps139;go_wp2_with(at_builtin;go_must(refine zT (H:=w.heap.size) rfl tQ Z0 V V rfl rfl (Aw w #[] 0 rV (sb _) rfl) q o l bA ?_);intro A2 c2 y Nt Gu);exact eN
def ZY:Bo 82 9 136:=gG
def Nv(w:World)(X:afu)(A:aft)(n c:Nat)(d:List (List Value))(hr:Row w X 9 A n d)(o:∀cs∈d,∀u∈cs,u.oneCell'=true)(l:n<=100000000)(e:∀b,X b->b<w.heap.size):Calls Tryz.prog 77 #[.slice A n c] w (GO 82 9 n d w):=by
 have x:∀(w:World)(a:aft)(n c n' c':Nat),(binOp .eql 76 (.slice a n c) (.slice none n' c')).run Tryz.prog w=.ok (.bool a.isNone) w:=fun w a n c n' c'=>yI w _ _ a n c n' c' EJ
 have q:=Row.below hr ((afw w).al rV (.cells #[] 82)) e;cases A with
 |none=>have m:n=0:=cH;subst m;have j:d=[]:=rT hr.len;subst j;go_enter Tryz.func77,Tryz.ntmps77;exact cX
 |some v=>have sK:=(afw w).al rV (.cells #[] 82);go_enter Tryz.func77,Tryz.ntmps77;go_wp2_with(at_builtin;go_must(refine zT (H:=w.heap.size) rfl EJ ZY V V rfl rfl (Aw w #[] 0 rV (sb _) rfl) q o l bA ?_);intro A2 c2 y Nt Gu);exact eN
def Z1:Bo 79 10 160:=gG
def GN(w:World)(X:afu)(A:aft)(n c:Nat)(d:List (List Value))(hr:Row w X 10 A n d)(o:∀cs∈d,∀u∈cs,u.oneCell'=true)(l:n<=100000000)(e:∀b,X b->b<w.heap.size):Calls Tryz.prog 75 #[.slice A n c] w (GO 79 10 n d w):=by
 have x:∀(w:World)(a:aft)(n c n' c':Nat),(binOp .eql 30 (.slice a n c) (.slice none n' c')).run Tryz.prog w=.ok (.bool a.isNone) w:=fun w a n c n' c'=>yI w _ _ a n c n' c' EI
 have q:=Row.below hr ((afw w).al rV (.cells #[] 79)) e;cases A with
 |none=>have m:n=0:=cH;subst m;have j:d=[]:=rT hr.len;subst j;go_enter Tryz.func75,Tryz.ntmps75;exact cX
 |some v=>have sK:=(afw w).al rV (.cells #[] 79);go_enter Tryz.func75,Tryz.ntmps75;go_wp2_with(at_builtin;go_must(refine zT (H:=w.heap.size) rfl EI Z1 V V rfl rfl (Aw w #[] 0 rV (sb _) rfl) q o l bA ?_);intro A2 c2 y Nt Gu);exact eN
def At(w:World)(d k:Nat)(e:List (List Value)):Prop:=∀i cs,e[i]? =some cs->cs.length=k/\∀q u,cs[q]? =some u->w.cell? (rN d (i*k+q))=some u/\w.frozen? (rN d (i*k+q))=false
def Se(g:q<k)(l:r<k)(h:i*k+q=j*k+r):i=j/\q=r:=by
 have d:(i*k+q)/k=i:=by rw[QU,Nat.add_mul_div_right _ _ V,Tr g,tq]
 have e:(j*k+r)/k=j:=by rw[QU,Nat.add_mul_div_right _ _ V,Tr l,tq]
 rw[h]at d;have:i=j:=d.symm.trans e;subst this;exact⟨rfl,V⟩
def At.keep(h:At w d k g)(hb:w'.heap[d]? =w.heap[d]?):At w' d k g:=fun i cs e=>⟨(h i cs e).1,fun q u j=>⟨(rK (w:=w) (a:=rN d (i*k+q)) hb).trans ((h i cs e).2 q u j).1,(sP (w:=w) (a:=rN d (i*k+q)) hb).trans ((h i cs e).2 q u j).2⟩⟩
def At.below(h:At w d k e)(hb:Below B w w')(g:d<B):At w' d k e:=h.keep (hb.block d g)
def At.off{g:Nat}{e:List (List Value)}(h:At w d k e)(hb:sa g B w w')(j:d<B)(l:d≠g):At w' d k e:=h.keep (hb.block d j l)
def At.put(h:At w m k o){j:Nat}{cs:List Value}(y:o[j]? =some cs){r:Nat}(x:r<k)(v:Value):At (w.setCell ⟨m,j*k+r,none⟩ v) m k (o.set j (cs.set r v)):=by
 intro i B e;rw[uG]at e;have l:=h j cs y;by_cases p:j=i
 ·subst p;rw[rG rfl,rG (rQ.1 y).1]at e;injection e with e;subst e;refine⟨by rw[uB];exact l.1,fun q u d=> ?_⟩;rw[vH];rw[uG]at d;by_cases z:r=q;·subst z;rw[rG rfl,rG (by rw[l.1];exact x)]at d;injection d with d;subst d;have:=l.2 r cs[r] (rD (by rw[l.1];exact x));exact ij
  ·rw[rB z]at d;have:=l.2 q u d;refine⟨(tg _ _ _ _ (fun g=> ?_)).trans this.1,this.2⟩;injection g with _ g _;omega
 ·rw[rB p]at e;have tj:=h i B e;refine⟨tj.1,fun q u d=> ?_⟩;rw[vH];have:=tj.2 q u d;refine⟨(tg _ _ _ _ (fun g=> ?_)).trans this.1,this.2⟩;injection g with _ g _;have C:q<k:=by rw[<-tj.1];exact(rQ.1 d).1
  exact p (Se x C g).1
def Fm{e:TypeId}{k n c:Nat}{A:aft}{j:List (List Value)}(h:w.ownsRow H e k (.slice A n c) n j.flatten)(E:∀cs∈j,cs.length=k)(D:0<k)(x:0<n):∃d,A=some ⟨d,0,none⟩/\H<=d/\d<w.heap.size/\At w d k j/\j.length=n:=by
 have y:=Row.xg h E D;obtain⟨g,p,B,O,o⟩:=y.pos x;obtain⟨z,cap,hv,hb,F⟩:=World.ownsRow.form h x;have l:A=some ⟨z,0,none⟩:=ia;have m:=B.symm.trans l;injection m with m;injection m with h1 h2 _;subst h1 h2;refine⟨g,l,hb,F,fun i cs v=>⟨(o i cs v).1,fun q u G=>⟨by have:=(o i cs v).2 q u G;rwa[tq]at this,?_⟩⟩,y.len⟩;rcases h.2 with⟨hv,L⟩|⟨K,cap,I,hv,hb,C,R,M,N,S⟩;·omega
 ·injection hv with hv e1 e2;rw[l]at hv;injection hv with hv;injection hv with hv;subst hv;simp[World.frozen?,C]
def At.row(h:At w d k e)(m:e.length=n)(X:afu)(l:X d):Row w X k (some ⟨d,0,none⟩) n e:=⟨m,fun _=>⟨d,0,rfl,l,fun i cs g=>⟨(h i cs g).1,fun j u o=>by rw[tq];exact((h i cs g).2 j u o).1⟩⟩⟩
def abw(H:Nat)(w:World)(j:J)(e:Ending)(w':World):Prop:=∃(k i:Int)(t:ByteArray)(A:aft)(n c:Nat)(A':aft)(n' c':Nat),e=.returned (jA k i t A n c A' n' c')/\uq w' (fun b=>H<=b/\b<w'.heap.size) (jv k i t A n c A' n' c') j/\afv w w'
def aah{X:afu}{d:List (List Value)}{items:List J}(m:d.length=items.length)(g:∀(i:Nat)(h:i<d.length)(l:i<items.length),uq w X d[i] items[i]):∀cs∈d,∀u∈cs,u.oneCell'=true:=by intro cs e;obtain⟨i,j,rfl⟩:=vx e;exact ve.one (g i j V)
def GA(l:List afs):∀cs∈uL l,∀u∈cs,u.oneCell'=true:=by intro cs Xn u hu;unfold uL at Xn;exact jD
def XU:∀cs∈xZ l,∀u∈cs,u.oneCell'=true:=by intro cs Xn u hu;unfold xZ at Xn;exact jD
def Vz(h:cs.length=5)(a b c d e:Value):((((cs.set 0 a).set 1 b).set 2 c).set 3 d).set 4 e=[a,b,c,d,e]:=by
 match cs,h with
 | [_,_,_,_,_],_=>rfl
end
structure Zd(w:World)(H G:Nat)(j:Nat)(EL:List (List Value))(items:List J)(uQ:List (List Value)):Prop where
 at_:At w G 5 uQ
 len:uQ.length=EL.length
 done:∀(i:Nat)(h:i<uQ.length)(h':i<items.length),i<j->uq w (fun b=>(H<=b/\b<w.heap.size)/\b≠G) uQ[i] items[i]
 rest:∀i,j<=i->uQ[i]? =EL[i]?
section
variable{w w':World}{b H d e n c g j:Nat}{EL l:List (List Value)}{items:List J}
def Zd.below{e:List (List Value)}{items:List J}(h:Zd w H d j EL items e)(hb:afv w w')(l:d<w.heap.size):Zd w' H d j EL items e:=⟨h.at_.below hb l,h.len,fun i m o p=>(h.done i m o p).keep (fun q v=>hb.cell v.1.2) (fun b g=>⟨⟨g.1.1,eT⟩,g.2⟩),h.rest⟩
def Zd.step(h:Zd w H g j EL items l)(hb:afv w w')(O:g<w.heap.size)(T:H<=w.heap.size)(hj:j<l.length){x:J}(hx:items[j]? =some x){a b c d e:Value}(S:uq w' (fun q=>w.heap.size<=q/\q<w'.heap.size) [a,b,c,d,e] x):∃I,Zd (((((w'.setCell ⟨g,j*5,none⟩ a).setCell ⟨g,j*5+1,none⟩ b).setCell ⟨g,j*5+2,none⟩ c).setCell ⟨g,j*5+3,none⟩ d).setCell ⟨g,j*5+4,none⟩ e) H g (j+1) EL items I:=by
 have p:=h.below hb O;have U:=hb.size;obtain⟨cs,C⟩:∃cs,l[j]? =some cs:=⟨_,rD hj⟩;have R:=(p.at_ j cs C).1;have G:=p.at_.put C (r:=0) V a;have K:(l.set j (cs.set 0 a))[j]? =some (cs.set 0 a):=jU;have v:=G.put K (r:=1) V b;rw[vQ]at v;have L:(l.set j ((cs.set 0 a).set 1 b))[j]? =some ((cs.set 0 a).set 1 b):=jU;have y:=v.put L (r:=2) V c;rw[vQ]at y;have M:(l.set j (((cs.set 0 a).set 1 b).set 2 c))[j]? =some (((cs.set 0 a).set 1 b).set 2 c):=jU;have z:=y.put M (r:=3) V d;rw[vQ]at z;have N:(l.set j ((((cs.set 0 a).set 1 b).set 2 c).set 3 d))[j]? =some ((((cs.set 0 a).set 1 b).set 2 c).set 3 d):=jU;have B:=z.put N (r:=4) V e;rw[vQ,Vz R]at B;have E:sa g w'.heap.size w' (((((w'.setCell ⟨g,j*5,none⟩ a).setCell ⟨g,j*5+1,none⟩ b).setCell ⟨g,j*5+2,none⟩ c).setCell ⟨g,j*5+3,none⟩ d).setCell ⟨g,j*5+4,none⟩ e):=(((((sa.refl g _ w').setAt (j*5) a).setAt (j*5+1) b).setAt (j*5+2) c).setAt (j*5+3) d).setAt (j*5+4) e;have F:(((((w'.setCell ⟨g,j*5,none⟩ a).setCell ⟨g,j*5+1,none⟩ b).setCell ⟨g,j*5+2,none⟩ c).setCell ⟨g,j*5+3,none⟩ d).setCell ⟨g,j*5+4,none⟩ e).heap.size=w'.heap.size:=bA;refine⟨l.set j [a,b,c,d,e],B,jM,?_,?_⟩
 ·intro i D YT hij;rw[uB]at D;rw[Tl];split;·rename_i e;subst e;have:items[j]=x:=ld;rw[this];exact S.keep (fun q o=>E.cell o.2 V) (fun b m=>⟨⟨V,by rw[F];exact m.2⟩,V⟩)
  ·rename_i e;exact(p.done i D YT V).keep (fun q o=>E.cell o.1.2 o.2) (fun b m=>⟨⟨m.1.1,by rw[F];exact m.1.2⟩,m.2⟩)
 ·exact oI
def RM:∀(N:Nat)(j:J),SizeOf.sizeOf j<=N->∀(w:World)(X:afu)(k i:Int)(t:ByteArray)(A:aft)(n c:Nat)(A':aft)(n' c':Nat),uq w X (jv k i t A n c A' n' c') j->(∀b,X b->b<w.heap.size)->Calls Tryz.prog 79 #[jA k i t A n c A' n' c'] w (abw w.heap.size w j):=by
 intro N;induction N with
 |zero=>exact fq
 |succ N g2=>
  intro j f8 w X k i t A n c A' n' c' h hX;cases h with
  |mk hr fi ci fc g9 ga c6 c7=>
   rename_i text items keys l;have c5:=((afw w).al rV (jC k i ⟨text.toArray⟩ A n c A' n' c')).alloc bA (jZ);have dr:=(vW.new w k i ⟨text.toArray⟩ A n c A' n' c' w.heap.size rfl).below (xn.alloc rV (jZ)) bA;have dx:=vW.new (w.alloc (jC k i ⟨text.toArray⟩ A n c A' n' c')) 0 0 ⟨#[]⟩ none 0 0 none 0 0 (w.heap.size+1) bA;have ct:=c5.s2;go_enter Tryz.func79,Tryz.ntmps79;go_upto_region 1 with fail;generalize(w.alloc _).alloc _=w1 at*;have dd:=rz ct;have gb:w.heap.size+1<w1.heap.size:=V;clear ct;refine vO (K:=Below) Below.keeps (sA.of [0,1,3,4,2,6,5] .nil) 7 (sA.of [8,9] .nil) [2,5,9] [1,4] bm bm bF bm bt (fun wd b8 tj=> ?_);have ds:=dr.below b8 V;have e1:=dx.below b8 V;have b7:=c5.sY (by have:=dd.out;omega) b8;have gk:w.heap.size+1<wd.heap.size:=V;have fl:=Row.below hr b7 hX;have ff:=Row.below fc b7 hX;have b6:∀b,X b->b<wd.heap.size:=fun b hb=>bC
   obtain⟨⟨a4,a5,a6,a7,a8⟩,ea⟩:=ds;repeat((first|(refine wM rfl rfl rfl rfl bo ?_)|(refine wO rfl rfl rfl rfl ?_)|(refine wN rfl rfl rfl rfl (w.heap.size+1) V _ (by intro w' hb;have d2:=(hb.cell (p:=rN w.heap.size 0) bl).trans a4;have d3:=(hb.cell (p:=rN w.heap.size 1) bl).trans a5;have d4:=(hb.cell (p:=rN w.heap.size 2) bl).trans a6;have d5:=(hb.cell (p:=rN w.heap.size 3) bl).trans a7;have d6:=(hb.cell (p:=rN w.heap.size 4) bl).trans a8;clear hb;go_simp;first|done|with_reducible rfl) ?_));simp only[Act.put,rH,rC,rF])
   refine uC rfl rfl (w.heap.size+1) V (fun W E=> ?_);go_wp2_with fail;refine(Ap wd X A' n' c' (uL keys) ff (GA keys) c7 b6).mono ?_;rintro e' o ⟨G,L,rfl,ck,vb⟩;go_wp2_with fail;refine E _ _ (vb.mono V) ?_;refine aq ?_;refine uC rfl rfl (w.heap.size+1) V (fun W E=> ?_);go_wp2_with fail;refine(Nx o X A n c l (Row.below fl vb b6) (aah fi ci) c6 (fun b hb=>by have:=b6 b hb;exact de)).mono ?_;rintro e' y ⟨z,M,rfl,cp,R⟩;go_wp2_with fail;refine E _ _ (R.mono de) ?_;refine aq ?_;have gc:=vb.size;have gd:=R.size;have dj:=vW.below (vW.below (w:=wd) ⟨⟨a4,a5,a6,a7,a8⟩,ea⟩ vb V) R V;have dz:=(e1.below vb V).below R V;have ab:=(b7.trans (vb.mono (B':=w.heap.size) V)).trans (R.mono (B':=w.heap.size) V);have es:=Ah ck;have et:=Ah cp;have fn:=Row.xg ck iW V;have ft:Row y (fun b=>wd.heap.size<=b/\b<o.heap.size) 1 G n' (uL keys):=fn.keep (fun q I=>R.cell I.2.1) (fun b hb=>⟨hb.1,hb.2.1⟩);have f3:∀(i:Nat)(h:i<l.length)(B:i<items.length),uq y X l[i] items[i]:=fun i h B=>(ci i h B).stay ab hX
   have fj:0<n->∃e,z=some ⟨e,0,none⟩/\o.heap.size<=e/\e<y.heap.size/\At y e 5 l/\l.length=n:=Fm cp hr.Dp V;have b0:=rz (show items.length=n from cn);obtain⟨⟨bk,bn,bp,br,bs⟩,bv⟩:=dj;refine Az rfl (fun W E=> ?_);go_wp2_with fail;refine E _ _ trivial ?_;refine ah ?_;refine se rfl rfl 0 rV (fun W E=> ?_);go_wp2_with fail;refine E _ _ trivial ?_;refine sF ?_;have dp:vW ((y.setCell ⟨w.heap.size,4,none⟩ (.slice G n' L)).setCell ⟨w.heap.size,3,none⟩ (.slice z n M)) w.heap.size k i ⟨text.toArray⟩ z n M G n' L:=⟨⟨bi,bi,bi,bi,bi⟩,fun j=>by have:=bv j;go_simp⟩;have a3:sa w.heap.size y.heap.size y ((y.setCell ⟨w.heap.size,4,none⟩ (.slice G n' L)).setCell ⟨w.heap.size,3,none⟩ (.slice z n M)):=((sa.refl _ _ _).setAt 4 _).setAt 3 _;have cv:((y.setCell ⟨w.heap.size,4,none⟩ (.slice G n' L)).setCell ⟨w.heap.size,3,none⟩ (.slice z n M)).heap.size=y.heap.size:=bA;generalize(y.setCell _ _).setCell _ _=O at*;have df:=rz cv;clear cv;have ek:=ab.trans (a3.below (B':=w.heap.size) (by have:=ab.size;omega) V);have f4:∀(i:Nat)(h:i<l.length)(B:i<items.length),uq O X l[i] items[i]:=fun i h B=>(f3 i h B).stay (a3.below (B':=w.heap.size) (by have:=ab.size;omega) V) hX
   have fx:Row O (fun b=>wd.heap.size<=b/\b<o.heap.size) 1 G n' (uL keys):=ft.keep (fun q I=>a3.cell V V) ug;have e0:=dz.off a3 V V;have cr:0<n->∃e,z=some ⟨e,0,none⟩/\o.heap.size<=e/\e<y.heap.size/\At O e 5 l/\l.length=n:=fun h=>by obtain⟨e,Y,Z,aa,a0,bz⟩:=fj h;exact⟨e,Y,Z,aa,a0.off a3 V V,bz⟩
   have gf:=df.out;have gn:w.heap.size+1<o.heap.size:=V;have go:o.heap.size<=O.heap.size:=V;have g7:=cr;obtain⟨e,eg⟩:∃e,(0<n->z=some ⟨e,0,none⟩)/\o.heap.size<=e/\(0<n->e<O.heap.size)/\(0<n->At O e 5 l):=by
    by_cases v:0<n;·obtain⟨e,Y,Z,aa,a0,bz⟩:=cr v;exact⟨e,fun _=>Y,Z,fun _=>V,fun _=>a0⟩
    ·exact⟨o.heap.size,fun h=>absurd h v,rZ _,fun h=>absurd h v,fun h=>absurd h v⟩
   obtain⟨bO,a1,c3,eh⟩:=eg;have cb:l.length=n:=hr.len;have aU:=rz cb;clear cb;obtain⟨⟨bk,bn,bp,br,bs⟩,bv⟩:=dp;go_wp2_with fail;go_loopw [15] (fun bd wr=>∃(j:Nat)(H:List (List Value)),bd=.int .i64 j/\j<=n/\(0<n->Zd wr wd.heap.size e j l items H)/\Below o.heap.size O wr/\(H.length=n)) (fun bd _=>n-(intOf bd).toNat);case atStart=>exact⟨0,l,rfl,sb _,fun h=>⟨eh h,rfl,fun i h B v=>absurd v V,fun _ _=>rfl⟩,Below.refl _ _,aU.out⟩
   case
    round=>
     obtain⟨j,H,rfl,hj,cf,F,cc⟩:=hrel;have U:=rz cc;have gl:=F.size;have e3:=F.cl bk V;have e4:=F.cl bn V;have e5:=F.cl bp V;have e6:=F.cl br V;have e7:=F.cl bs V;have e2:=e0.below (F.mono (show w.heap.size+2<=o.heap.size from V)) V;clear cc;by_cases af:j<n
     ·have fb:(j:Int)<(n:Int):=V;have b5:0<n:=V;have S:=cf b5;obtain rfl:=bO b5;have D:e<wr.heap.size:=by have:=c3 b5;omega
      obtain⟨x,an⟩:∃x,items[j]? =some x:=⟨_,rD (by rw[b0.out];exact af)⟩;have b9:j<items.length:=by rw[b0.out];exact af
      have c9:j<l.length:=by rw[aU.out];exact af
      have cx:items[j]=x:=by rw[rD b9]at an;injection an
      have ad:=f4 j c9 b9;rw[cx]at ad;obtain⟨cz,cy,cR,be,cA,c1,bj,cE,c2,c8⟩:=ad.form;have f0:H[j]? =some (jv cz cy cR be cA c1 bj cE c2):=by rw[S.rest j rV,rD c9,c8]
      rw[c8]at ad;have f6:=ad.stay (F.mono (B':=w.heap.size) V) hX;have g0:SizeOf.sizeOf x<=N:=by have:=wX (cx▸sj b9);simp only[J.mk.sizeOf_spec]at f8;omega
      have a2:=(S.at_ j _ f0).2;have a9:=a2 0 _ rfl;have b1:=a2 1 _ rfl;have b2:=a2 2 _ rfl;have b3:=a2 3 _ rfl;have b4:=a2 4 _ rfl;obtain⟨a9,bx⟩:=a9;obtain⟨b1,eb⟩:=b1;obtain⟨b2,ec⟩:=b2;obtain⟨b3,ed⟩:=b3;obtain⟨b4,ef⟩:=b4;rw[sE]at a9 bx;have c4:∀b,X b->b<wr.heap.size:=fun b hb=>bC
      have f1:j<H.length:=by rw[U.out];exact af
      have di:=rz an;clear an;go_upto_region 5 with fail;refine vO (K:=Below) Below.keeps (sA.of [0,1,2,3,4,5,6,7,8,9] .nil) 10 (sA.of [] .nil) [8] [1,4,7] bm bm bF bm bt (fun T g g8=> ?_);have a4:=g.cl e3 V;have a5:=g.cl e4 V;have a6:=g.cl e5 V;have a7:=g.cl e6 V;have a8:=g.cl e7 V;have cS:=g.cl a9 D;have cW:=g.cl b1 D;have cZ:=g.cl b2 D;have d0:=g.cl b3 D;have d1:=g.cl b4 D;have v:=(g.frozen (p:=rN e (j*5)) D).trans bx;have Y:=(g.frozen (p:=rN e (j*5+1)) D).trans eb;have Z:=(g.frozen (p:=rN e (j*5+2)) D).trans ec;have aa:=(g.frozen (p:=rN e (j*5+3)) D).trans ed;have a0:=(g.frozen (p:=rN e (j*5+4)) D).trans ef;have f2:=S.below g D;have f7:=f6.stay g c4;have el:=F.trans (g.mono (B':=o.heap.size) V);have C:e<T.heap.size:=V;have gr:w.heap.size<T.heap.size:=V;repeat((first|(refine wM rfl rfl rfl rfl bo ?_)|(refine wO rfl rfl rfl rfl ?_)|(refine wN rfl rfl rfl rfl (T.heap.size) V _ (by intro w' hb;have d2:=(hb.cell (p:=rN w.heap.size 0) bl).trans a4;have d3:=(hb.cell (p:=rN w.heap.size 1) bl).trans a5;have d4:=(hb.cell (p:=rN w.heap.size 2) bl).trans a6;have d5:=(hb.cell (p:=rN w.heap.size 3) bl).trans a7;have d6:=(hb.cell (p:=rN w.heap.size 4) bl).trans a8;have h1:=(hb.cell (p:=rN e (j*5)) bl).trans cS;have h2:=(hb.cell (p:=rN e (j*5+1)) bl).trans cW;have h3:=(hb.cell (p:=rN e (j*5+2)) bl).trans cZ;have h4:=(hb.cell (p:=rN e (j*5+3)) bl).trans d0;have h5:=(hb.cell (p:=rN e (j*5+4)) bl).trans d1;clear hb;go_simp;first|done|with_reducible rfl) ?_));simp only[Act.put,rH,rC,rF])
      refine uC rfl rfl (T.heap.size) V (fun W E=> ?_);go_wp2_with fail;refine(g2 x g0 T X cz cy cR be cA c1 bj cE c2 f7 (fun b hb=>by have:=c4 b hb;omega)).mono ?_;rintro e' gx ⟨g3,g1,g6,d7,g4,e8,d8,g5,e9,rfl,f9,m⟩;go_wp2_with fail;refine E _ _ m ?_;repeat((first|(refine wM rfl rfl rfl rfl bo ?_)|(refine wO rfl rfl rfl rfl ?_)|(refine wN rfl rfl rfl rfl (T.heap.size) V _ bJ ?_));simp only[Act.put,rH,rC,rF])
      obtain⟨bw,ch⟩:=f2.step m C V f1 di.out f9;have cj:bw.length=n:=ch.len.trans aU.out;have gi:=m.size;have gz:=m.cl cS C;have d2:=(m.frozen (p:=rN e (j*5)) C).trans v;have gA:=m.cl cW C;have d3:=(m.frozen (p:=rN e (j*5+1)) C).trans Y;have gR:=m.cl cZ C;have d4:=(m.frozen (p:=rN e (j*5+2)) C).trans Z;have gW:=m.cl d0 C;have d5:=(m.frozen (p:=rN e (j*5+3)) C).trans aa;have h0:=m.cl d1 C;have d6:=(m.frozen (p:=rN e (j*5+4)) C).trans a0;refine Az rfl (fun W E=> ?_);go_wp2_with fail;refine E _ _ trivial ?_;refine sF ?_;have en:=(((((el.trans (m.mono (B':=o.heap.size) V)).setCell (p:=rN e (j*5)) a1 (.int .i64 g3)).setCell (p:=rN e (j*5+1)) a1 (.int .i64 g1)).setCell (p:=rN e (j*5+2)) a1 (.string g6)).setCell (p:=rN e (j*5+3)) a1 (.slice d7 g4 e8)).setCell (p:=rN e (j*5+4)) a1 (.slice d8 g5 e9);have d9:=rz cj;clear cj;go_wp2_with fail;refine⟨⟨j+1,bw,bA,V,fun _=>ch,en,d9.out⟩,?_⟩;exact bN
     ·obtain rfl:j=n:=V;have fb:¬(j:Int)<(j:Int):=V;have em:=ek.trans (F.mono (B':=w.heap.size) V);have fE:Row wr (fun b=>wd.heap.size<=b/\b<o.heap.size) 1 G n' (uL keys):=fx.keep (fun q I=>F.cell I.2) ug;have ei:Row wr (fun b=>wd.heap.size<=b/\b<wr.heap.size) 5 z j H/\∀(i:Nat)(h:i<H.length)(B:i<items.length),uq wr (fun b=>wd.heap.size<=b/\b<wr.heap.size) H[i] items[i]:=by
       by_cases v:0<j;·have S:=cf v;obtain rfl:=bO v;have:=c3 v;exact⟨S.at_.row U.out _ ⟨V,V⟩,fun i h B=>(S.done i h B (by rw[U.out]at h;exact h)).keep (fun _ _=>rfl) (fun b hb=>⟨V,hb.1.2⟩)⟩
       ·obtain rfl:j=0:=V;have er:H=[]:=rT U.out;subst er;exact⟨Row.nil _ _ _ _,fun i h=>absurd h bA⟩
      obtain⟨fS,f5⟩:=ei;have fm:∀az:World,sa (w.heap.size+1) wr.heap.size wr az->uq az (fun b=>w.heap.size<=b/\b<az.heap.size) (jv k i ⟨text.toArray⟩ z j M G n' L) (.mk k i text items keys):=by intro az ar;have gs:=ar.size;refine .mk (fS.keep (fun q I=>ar.cell I.2 V) (fun b hb=>⟨V,V⟩)) (by rw[U.out,b0.out]) (fun i h B=>(f5 i h B).keep (fun q I=>ar.cell I.2 V) (fun b hb=>⟨V,V⟩)) (fE.keep (fun q I=>ar.cell V V) (fun b hb=>⟨V,V⟩)) et es c6 c7
      obtain⟨⟨h6,h7,h8,h9,ha⟩,hc⟩:=e2;go_wp2_with fail;refine sc (uX (k:=k) (i:=i) (t:=⟨text.toArray⟩) (A:=z) (n:=j) (c:=M) (A':=G) (n':=n') (c':=L) rfl rfl ⟨bi,bi,bi,bi,bi⟩) rfl ?_;refine⟨k,i,⟨text.toArray⟩,z,j,M,G,n',L,rfl,fm _ (((((sa.refl _ _ _).setAt 0 _).setAt 1 _).setAt 2 _).setAt 3 _|>.setAt 4 _),?_⟩;repeat' (first|with_reducible exact em|with_reducible refine Below.setCell ?_ bl _)
def Own.put{xs:afs}(h:Mem.Own w e (some ⟨g,0,none⟩) n c xs)(i:Nat)(x:UInt8)(B:i<n):Mem.Own (w.setCell ⟨g,i,none⟩ (.int .u8 (x.toNat:Int))) e (some ⟨g,0,none⟩) n c (xs.set i x):=by
 obtain⟨l,m⟩:=h;refine⟨by simpa[cells]using l,?_⟩;rcases m with⟨d,_⟩|⟨z,cap,j,d,hb,q,v,o,p,y⟩;·injection d with d;cases d
 ·injection d with d e1 e2;injection d with d;injection d with d;subst d e2;refine .inr ⟨g,c,j.setIfInBounds i (.int .u8 (x.toNat:Int)),rfl,hb,Lib.heap_setCell_same q _,v,o,by simpa using p,?_⟩;rw[Array.toList_setIfInBounds,List.take_set,y];unfold cells;rw[List.map_set];rfl
def Own.cellAt{xs:afs}(h:Mem.Own w e (some ⟨g,0,none⟩) n c xs)(i:Nat)(l:i<xs.length):w.cell? (rN g i)=some (.int .u8 (xs[i].toNat:Int)):=by obtain⟨b,p,d,_,j⟩:=h.rd.2 (by have:=h.len;omega);injection d with d;injection d with h1 h2;subst h1 h2;have:=j i xs[i] (rD l);rw[tq]at this;exact this
def Own.frozenAt{xs:afs}(h:Mem.Own w e (some ⟨g,0,none⟩) n c xs)(i:Nat)(y:0<n):w.frozen? (rN g i)=false:=by
 obtain⟨q,j⟩:=h;rcases j with⟨d,p⟩|⟨o,cap,m,d,hb,l,z,v,x,B⟩;·omega
 ·injection d with d e1 e2;injection d with d;injection d with d;subst d;simp[World.frozen?,l]
def FK(A:aft)(n c m:Nat)(xs:afs)(w:World)(q:Mem.Own w m A n c xs)(a7:n<=1000000000)(hb:m<=w.heap.size):Calls Tryz.prog 175 #[.slice A n c] w fun e w'=>e=.returned (.tuple #[])/\Mem.Own w' m A n c xs.reverse/\Below m w w':=by
 have I:=q.len;have a3:=q.cap;go_enter Tryz.func175,Tryz.ntmps175;go_wp2_with fail;go_loopw [2,3] (fun s2 U wr=>∃(i:Nat)(j:afs),s2=.int .i64 i/\U=.int .i64 ((n:Int)-1-i)/\i<=n/\Mem.Own wr m A n c j/\j.length=n/\(∀k,k<n->j[k]? =if k<i\/n<=k+i then xs[n-1-k]? else xs[k]?)/\Below m w wr) (fun s2 _ _=>n-(intOf s2).toNat);case atStart=>exact⟨0,xs,rfl,bA,sb _,q,I,fun k hk=>nQ,Below.refl _ _⟩
 case
  round=>
   obtain⟨i,j,rfl,rfl,a4,l,hyl,M,wI⟩:=hrel;have HY:=rz M;clear M q;by_cases R:i<n-1-i
   ·obtain⟨J,O⟩:∃J:Nat,J=n-1-i:=⟨_,rfl⟩;have E:((n:Int)-1-i)=(J:Int):=V;rw[E];have a2:(J:Int)<(n:Int):=V;have a6:(i:Int)<(n:Int):=V;have a5:(i:Int)<(J:Int):=V;obtain⟨g,cap,hv,_,G⟩:=World.ownsRow.form l V;have N:A=some ⟨g,0,none⟩:=ia;subst N;have a0:J+i+1<=n:=V;have a1:n<=J+i+1:=V;have B:i<j.length:=V;have z:J<j.length:=V;have H:=rD B;have L:=rD z;have C:=Own.cellAt l i B;have D:=Own.cellAt l J z;generalize j[i]=x at*;generalize j[J]=y at*;have HX:=rz H;have HYY:=rz L;clear hv O E H L R B z;go_upto_region 3 with fail;refine sR (K:=fun _ _ _=>True) OF (sA.of [0,1,2,3,4,5,6,8,9,10] (.fork 7 (sA.of [11,12,13,14,15] .nil) 11 (sA.of [7,12,13,14,15] .nil))) [7,11,13,15] bm bm bF bm bt (fun a9 o T=> ?_);have v:=l.below o;have F:=wI.trans (o.mono j8);have W:=o.cl C G;have X:=o.cl D G;have Y:=Own.frozenAt v i V;have Z:=Own.frozenAt v J V;have Nt:=Own.put (Own.put v i y V) J x V;have ze:=((F.setCell (p:=rN g i) (by assumption) (.int .u8 (y.toNat:Int))).setCell (p:=rN g J) (by assumption) (.int .u8 (x.toNat:Int)));clear l v C D o T wI F;refine ah ?_;refine yr rfl rfl 0 rV (fun Q1 tv=> ?_) (fun Q1 tv=> ?_);·exact l6
    ·exact l6
   ·have a8:¬(i:Int)<(n:Int)-1-i:=V;have S:j=xs.reverse:=by
     apply List.ext_getElem?;intro k;by_cases hk:k<n
     ·rw[HY.out k hk,List.getElem?_reverse V,I];by_cases h:k<i\/n<=k+i;·rw[rG h]
      ·rw[rB h,show n-1-k=k from V]
     ·exact oM
    rw[S]at l;clear HY;go_wp2_with fail;refine uv (tR rfl _ _ _) rfl ?_;exact⟨rfl,l,wI⟩
def vB:Nat->Nat->afs
 |0,u=>[UInt8.ofNat (48+u)]
 |f+1,u=>if 9<u then UInt8.ofNat (48+u%10)::vB f (u/10)else [UInt8.ofNat (48+u)]
def zZ(n:Int):afs:=(if n<0 then [45]else [])++(vB 20 n.natAbs).reverse
def LO(A:aft)(n c j:Nat)(xs:afs)(m:Int)(a2: -9223372036854775808<=m)(a3:m<=9223372036854775807)(w:World)(I:Mem.Own w j A n c xs)(a4:n<=1000000000)(hb:j<=w.heap.size):Calls Tryz.prog 119 #[.slice A n c,.int .i64 m] w fun e w'=>∃(z:aft)(k c2:Nat),e=.returned (.slice z k c2)/\Mem.Own w' j z k c2 (xs++zZ m)/\Below j w w'/\Bu A w z w':=by
 by_cases T:m<0
 ·go_enter Tryz.func119,Tryz.ntmps119;have sK:=(Below.refl j w).al hb (.cells #[.int .u8 45] 5);have U:=rd_val w 45 45 rfl;have a0:IntKind.u64.wrap (-IntKind.u64.wrap m)=((m.natAbs:Nat):Int):=bS;go_wp2_with(at_builtin;go_must(refine vl rfl rfl (I.alloc _) rfl U V (by simp;omega) ?_);intro K c1 w1 SY N O);try rw[a0]
  have ZK:=sK.trans N;have abO:=(Bu.al A w (.cells #[.int .u8 45] 5)).trans O;have hs1:j<=w1.heap.size:=by have:=ZK.size;omega
  have M:m.natAbs<10^21:=V;have D:m.natAbs<=9223372036854775808:=V;have x:xs++zZ m=(xs++[45])++(vB 20 m.natAbs).reverse:=by unfold zZ;rw[rG T];simp
  have HNP:=rz x;clear x;generalize m.natAbs=d at*;generalize xs++[45]=zs at*;have R:n+1<=1000000001:=V;generalize n+1=a5 at*;go_loopw [5,6] (fun o H wr=>∃(f u:Nat)(g:aft)(k3 l:Nat)(ds:afs),o=.int .u64 u/\H=.slice g k3 l/\Mem.Own wr w1.heap.size g k3 l ds/\ds++vB f u=vB 20 d/\u<10^(f+1)/\u<=9223372036854775808/\k3+f<=20/\afv w1 wr) (fun o _ _=>(intOf o).toNat);case atStart=>exact⟨20,d,none,0,0,[],rfl,rfl,Mem.Own.nil _ _,rfl,V,D,V,Below.refl _ _⟩
  case
   round=>
    obtain⟨f,u,g,k3,l,ds,rfl,rfl,hod,tj,hu,W,S,wI⟩:=hrel;have q:=wI.size;have p:=rz tj;clear tj;by_cases h9:9<u
    ·have C:(9:Int)<(u:Int):=V;obtain⟨f,rfl⟩:∃B,f=B+1:=j5;have y:(ds++[UInt8.ofNat (48+u%10)])++vB f (u/10)=vB 20 d:=by rw[<-p.out];simp[vB,h9]
     have WT:=rz y;clear y;have hu2:u/10<10^(f+1):=by rw[QV]at hu;omega
     have hv8:((UInt8.ofNat (48+u%10)).toNat:Int)=48+(u:Int)%10:=by simp;omega
     generalize UInt8.ofNat (48+u%10)=b8 at*;have Y:IntKind.u8.wrap (48+(u:Int)%10)=48+(u:Int)%10:=bS;have G:IntKind.u64.wrap (48+(u:Int)%10)=48+(u:Int)%10:=bS;have Z:IntKind.u64.wrap ((u:Int)/10)=(u:Int)/10:=bS;have sK:=(Below.refl w1.heap.size wr).al q (.cells #[.int .u8 (48+(u:Int)%10)] 5);exact mT
    ·have C:¬(9:Int)<(u:Int):=V;have E:vB f u=[UInt8.ofNat (48+u)]:=lA;have v:ds++[UInt8.ofNat (48+u)]=vB 20 d:=by rw[<-p.out,E]
     have HF:=rz v;clear v;have hv8:((UInt8.ofNat (48+u)).toNat:Int)=48+(u:Int):=by simp;omega
     generalize UInt8.ofNat (48+u)=b8 at*;have Y:IntKind.u8.wrap (48+(u:Int))=48+(u:Int):=bS;have G:IntKind.u64.wrap (48+(u:Int))=48+(u:Int):=bS;have sK:=(Below.refl w1.heap.size wr).al q (.cells #[.int .u8 (48+(u:Int))] 5);go_wp2_with(at_builtin;go_must(refine zb rfl rfl (hod.alloc _) rfl (rd_val wr b8 _ (by rw[hv8])) V (by simp;omega) ?_);intro A4 c4 w4 Rz Rs);have Xj:=wI.trans (sK.trans Rs);have F:=Xj.size;refine sG (FK A4 (k3+1) c4 w1.heap.size _ w4 Rz V F) fun a1 ⟨KF,Cv⟩=> ?_
     exact nu
 ·go_enter Tryz.func119,Tryz.ntmps119;obtain⟨d,rfl⟩:=uR (show 0<=m from V);go_wp2_with fail;have SY:=I;have ZK:=Below.refl j w;have abO:=Bu.refl A w;have hs1:=hb;have M:d<10^21:=V;have D:d<=9223372036854775808:=V;have x:xs++zZ (d:Int)=xs++(vB 20 d).reverse:=by unfold zZ;rw[rB V];simp
  have HNP:=rz x;clear x;obtain⟨K,L⟩:=sW A;subst L;have R:n<=1000000001:=V;go_loopw [5,6] (fun o H wr=>∃(f u:Nat)(g:aft)(k3 l:Nat)(ds:afs),o=.int .u64 u/\H=.slice g k3 l/\Mem.Own wr w.heap.size g k3 l ds/\ds++vB f u=vB 20 d/\u<10^(f+1)/\u<=9223372036854775808/\k3+f<=20/\afv w wr) (fun o _ _=>(intOf o).toNat);case atStart=>exact⟨20,d,none,0,0,[],rfl,rfl,Mem.Own.nil _ _,rfl,V,D,V,Below.refl _ _⟩
  case
   round=>
    obtain⟨f,u,g,k3,l,ds,rfl,rfl,hod,tj,hu,W,S,wI⟩:=hrel;have q:=wI.size;have p:=rz tj;clear tj;by_cases h9:9<u
    ·have C:(9:Int)<(u:Int):=V;obtain⟨f,rfl⟩:∃B,f=B+1:=j5;have y:(ds++[UInt8.ofNat (48+u%10)])++vB f (u/10)=vB 20 d:=by rw[<-p.out];simp[vB,h9]
     have WT:=rz y;clear y;have hu2:u/10<10^(f+1):=by rw[QV]at hu;omega
     have hv8:((UInt8.ofNat (48+u%10)).toNat:Int)=48+(u:Int)%10:=by simp;omega
     generalize UInt8.ofNat (48+u%10)=b8 at*;have X:IntKind.u8.wrap (48+(u:Int)%10)=48+(u:Int)%10:=bS;have G:IntKind.u64.wrap (48+(u:Int)%10)=48+(u:Int)%10:=bS;have Z:IntKind.u64.wrap ((u:Int)/10)=(u:Int)/10:=bS;have sK:=(Below.refl w.heap.size wr).al q (.cells #[.int .u8 (48+(u:Int)%10)] 5);exact mT
    ·have C:¬(9:Int)<(u:Int):=V;have E:vB f u=[UInt8.ofNat (48+u)]:=lA;have v:ds++[UInt8.ofNat (48+u)]=vB 20 d:=by rw[<-p.out,E]
     have HF:=rz v;clear v;have hv8:((UInt8.ofNat (48+u)).toNat:Int)=48+(u:Int):=by simp;omega
     generalize UInt8.ofNat (48+u)=b8 at*;have X:IntKind.u8.wrap (48+(u:Int))=48+(u:Int):=bS;have G:IntKind.u64.wrap (48+(u:Int))=48+(u:Int):=bS;have sK:=(Below.refl w.heap.size wr).al q (.cells #[.int .u8 (48+(u:Int))] 5);go_wp2_with(at_builtin;go_must(refine zb rfl rfl (hod.alloc _) rfl (rd_val wr b8 _ (by rw[hv8])) V (by simp;omega) ?_);intro A4 c4 w4 Rz Rs);have Xj:=wI.trans (sK.trans Rs);have F:=Xj.size;refine sG (FK A4 (k3+1) c4 w.heap.size _ w4 Rz V F) fun a1 ⟨KF,Cv⟩=> ?_
     exact nu
def NH(A:aft)(n c d:Nat)(xs:afs)(m:Int)(o: -9223372036854775808<=m)(p:m<=9223372036854775807)(w:World)(v:Mem.Own w d A n c xs)(q:n<=1000000000)(hb:d<=w.heap.size):Calls Tryz.prog 119 #[.slice A n c,.int .i64 m] w fun e w'=>∃(g:aft)(k c2:Nat),e=.returned (.slice g k c2)/\Mem.Own w' d g k c2 (xs++zZ m)/\Below d w w':=(LO A n c d xs m o p w v q hb).mono fun e w' ⟨g,k,c2,h,j,l,_⟩=>⟨g,k,c2,h,j,l⟩
def Lx(w:World)(b d:Nat)(st:afs×Bool):Prop:=∃(p A:aft)(n c:Nat),By w b p A n c st.2/\(p=none\/p=some ⟨b,0,none⟩)/\Mem.Own w d A n c st.1/\b<d/\d<=w.heap.size/\n<=20000
def xL(st:afs×Bool)(s:afs):afs×Bool:=if(st.2||decide (20000<s.length+st.1.length))=true then(st.1,true)else(st.1++s,false)
def Lx.below{st:afs×Bool}(h:Lx w b d st)(hb:afv w w'):Lx w' b d st:=by obtain⟨p,A,n,c,e,g,j,l,o,m⟩:=h;exact⟨p,A,n,c,e.below hb e.lt,g,j.below hb,l,eT,m⟩
def xr(b d:Nat)(st:afs×Bool)(s:afs)(w:World)(h:Lx w b d st)(H:s.length<=10000000):Calls Tryz.prog 118 #[sg b,.string ⟨s.toArray⟩] w fun e w'=>e=.returned (.tuple #[])/\Lx w' b d (xL st s)/\sa b d w w'/\z8 b w w':=by
 obtain⟨p,A,n,c,h1,h2,h3,h4,h5,h6⟩:=h;obtain⟨xs,m⟩:=st;simp only at h1 h3;have j:=h3.len;obtain⟨R,g⟩:=sW (xL (xs,m) s);rw[<-g];unfold xL at g;simp only[j]at g;have HR:=rz g;clear g;have c0:=h1.c0;have c1:=h1.c1;have c2:=h1.c2;have fz:=h1.fz 2;have G:=h1.lt;have F:=rz j;clear j;cases m
 ·by_cases E:20000<s.length+n
  ·obtain rfl:R=(xs,true):=by rw[HR.out];simp[E]
   have C:(20000:Int)-(n:Int)<(s.length:Int):=V;have D:decide ((20000:Int)-(n:Int)<(s.length:Int))=true:=by simp;omega
   go_enter Tryz.func118,Tryz.ntmps118;go_wp2_with fail;refine tZ (PB b p A n c false w h1) ?_;exact dH
  ·obtain rfl:R=(xs++s,false):=by rw[HR.out];simp;omega
   have C:¬(20000:Int)-(n:Int)<(s.length:Int):=V;have D:decide ((20000:Int)-(n:Int)<(s.length:Int))=false:=by simp;omega
   go_enter Tryz.func118,Tryz.ntmps118;go_wp2_with fail;refine tZ (PB b p A n c false w h1) ?_;go_wp2_with fail;have v:=h1.s2 false;have x:=h3.off ((sa.refl b w.heap.size w).setAt 2 (.bool false)) h4;refine sG (Gc b p A n c d false xs s _ v h2 x h4 (by simpa using h5) V) fun K ⟨o,q,z,B,l,y⟩=> ?_
   have I:=l.size;have yG:=((sa.refl b d w).setAt 2 (.bool false)).trans l;go_wp2_with fail;refine uv (tR rfl _ _ _) rfl ?_;exact⟨rfl,⟨_,o,_,q,z,.inr rfl,B,h4,dK,V⟩,yG,(z8.off ((sa.refl b _ _).setAt 2 _)).trans y⟩
 ·obtain rfl:R=(xs,true):=bU;go_enter Tryz.func118,Tryz.ntmps118;exact dH
end
abbrev St:=afs×Bool
def IM(i:Nat)(st:St):St:=if 0<i then xL st [44]else st
mutual
def yB:J->St->St
 | .mk k i t l ks,st=>if k=1 then xL st [110,117,108,108]else if k=2 then xL st (if i=1 then [116,114,117,101]else [102,97,108,115,101])else if k=3 then xL st (zZ i)else if k=4 then xL st (sB t)else if k=5 then xL (DE l 0 (xL st [91])) [93]else xL (Bb l ks 0 (xL st [123])) [125]
def DE:List J->Nat->St->St
 | [],_,st=>st
 |x::r,i,st=>DE r (i+1) (yB x (IM i st))
def Bb:List J->List afs->Nat->St->St
 | [],_,_,st=>st
 |_::_,[],_,st=>st
 |x::r,k::ks,i,st=>Bb r ks (i+1) (yB x (xL (IM i st) (sB k++[58])))
end
inductive yF:J->Prop
 |mk {k i:Int} {t:afs} {l:List J} {ks:List afs} (ht:t.length<=1000000) (hk:∀x∈ks,x.length<=1000000) (h1: -9223372036854775808<=i) (h2:i<=9223372036854775807) (h6:¬(k=1\/k=2\/k=3\/k=4\/k=5)->ks.length=l.length) (hi:∀x∈l,yF x):yF (.mk k i t l ks)
def CM(w:World)(B0 b:Nat):Prop:=w.heap[B0]? =some (.cells #[sg b] 135 (0,0))
def BZ(w:World)(J0:Nat)(k i:Int)(t:ByteArray)(A:aft)(n c:Nat)(A':aft)(n' c':Nat):Prop:=w.heap[J0]? =some (.cells #[.int .i64 k,.int .i64 i,.string t,.slice A n c,.slice A' n' c'] 60 (0,0))
section
variable{w w':World}{B0 J0 b:Nat}{k i:Int}{t:ByteArray}{A A':aft}{n c n' c':Nat}
def CM.c0(h:CM w B0 b):w.cell? (rN B0 0)=some (sg b):=by unfold CM at h;exact fg
def BZ.at_(h:BZ w J0 k i t A n c A' n' c'):Ti w J0 k i t A n c A' n' c':=by unfold BZ at h;exact⟨fg,fg,fg,fg,fg⟩
def CM.lt(h:CM w B0 b):B0<w.heap.size:=(vm.1 h).1
def BZ.lt(h:BZ w J0 k i t A n c A' n' c'):J0<w.heap.size:=(vm.1 h).1
def CM.Ew(h:CM w B0 b)(d:z8 b w w')(hb:B0≠b):CM w' B0 b:=(d.block B0 h.lt hb (fun g fz e=>by unfold CM at h;exact nq)).trans h
def BZ.Ew(h:BZ w J0 k i t A n c A' n' c')(d:z8 b w w')(hb:J0≠b):BZ w' J0 k i t A n c A' n' c':=(d.block J0 h.lt hb (fun g fz e=>by unfold BZ at h;exact nq)).trans h
end
def J1(N:Nat):Prop:=∀(j:J),SizeOf.sizeOf j<=N->yF j->∀(w:World)(b d:Nat)(st:St)(X:afu)(k i:Int)(t:ByteArray)(A:aft)(n c:Nat)(A':aft)(n' c':Nat),uq w X (jv k i t A n c A' n' c') j->(∀x,X x->x<b)->Lx w b d st->Calls Tryz.prog 60 #[sg b,jA k i t A n c A' n' c'] w fun e w'=>e=.returned (.tuple #[])/\Lx w' b d (yB j st)/\sa b d w w'/\z8 b w w'
def uq.R0{w w':World}{b d:Nat}{X:afu}{cs:List Value}{j:J}(h:uq w X cs j)(g:sa b d w w')(e:∀x,X x->x<b)(hb:b<d):uq w' X cs j:=h.keep (fun q l=>by have:=e _ l;exact g.cell V V) ug
def Mx(i:Int)(w:World):Calls Tryz.prog 121 #[.int .i64 i] w (zW w (.tuple #[])):=by go_enter Tryz.func121,Tryz.ntmps121;go_wp2_with fail;refine uv (tR rfl _ _ _) rfl ?_;exact bK
def Rj(N:Nat)(Z:J1 N)(B0 J0 b d:Nat)(st:St)(l:List J)(bv:∀x∈l,SizeOf.sizeOf x<=N/\yF x)(w:World)(X:afu)(k i:Int)(t:ByteArray)(A:aft)(n c:Nat)(A':aft)(n' c':Nat){F:List (List Value)}(hr:Row w X 5 A n F)(b9:F.length=l.length)(bk:∀(i:Nat)(h:i<F.length)(cc:i<l.length),uq w X F[i] l[i])(y:∀x,X x->x<b)(cv:n<=100000000)(H:CM w B0 b)(b3:BZ w J0 k i t A n c A' n' c')(cf:d<=B0)(cj:d<=J0)(hp:Lx w b d st):Calls Tryz.prog 117 #[.string ⟨#[91]⟩,.string ⟨#[93]⟩,.func (.func 121) #[] #[],sg B0,sg J0] w fun e w'=>e=.returned (.tuple #[])/\Lx w' b d (xL (DE l 0 (xL st [91])) [93])/\sa b d w w'/\z8 b w w':=by
 have a0:b<d:=fh;have a4:l.length=n:=cn;have HL:=rz a4;clear a4;have ch:=H.c0;obtain⟨R,K⟩:=sW (DE l 0 (xL st [91]));rw[<-K];have ad:=rz K;clear K;go_enter Tryz.func117,Tryz.ntmps117;go_wp2_with fail;refine sG (xr b d st [91] w hp bA) fun d1 ⟨bz,bw,L⟩=> ?_
 have ci:=H.Ew L V;have b4:=b3.Ew L V;obtain⟨j0,cy,cz,cA,cE⟩:=b4.at_;go_wp2_with fail;go_loopw [16] (fun U wr=>∃(j:Nat)(m:St),U=.int .i64 j/\j<=n/\Lx wr b d m/\R=DE (l.drop j) j m/\sa b d w wr/\z8 b w wr) (fun U _=>n-(intOf U).toNat);case atStart=>exact⟨0,xL st [91],rfl,sb _,bz,ad.out,bw,L⟩
 case
  round=>
   obtain⟨j,m,rfl,cs,ZU,a3,KH,ZQ⟩:=hrel;have HK:=rz a3;clear a3;have W:=H.Ew ZQ V;have ck:=W.c0;have cx:=KH.size;by_cases Dx:j<n
   ·have Fg:j<l.length:=dv;have bs:(j:Int)<(n:Int):=V;obtain⟨g,q,x,B,z,E,o,C,c1,v,D,c2,rfl,bj,hx,bn,af,an,ar,az,aU⟩:=zr hr b9 bk Dx;have a8:l[j]=x:=du;obtain⟨a9,aa⟩:=bv x (a8▸sj Fg);have bd:l.drop j=x::l.drop (j+1):=by rw[rM Fg,a8]
    have a7:R=DE (l.drop (j+1)) (j+1) (yB x (IM j m)):=by rw[HK.out,bd];rfl
    have WT:=rz a7;have cr:=y g bj;have cR:=(KH.cell (p:=rN g (q+j*5)) bl bl).trans af;have cS:=(KH.cell (p:=rN g (q+j*5+1)) bl bl).trans an;have cW:=(KH.cell (p:=rN g (q+j*5+2)) bl bl).trans ar;have cZ:=(KH.cell (p:=rN g (q+j*5+3)) bl bl).trans az;have d0:=(KH.cell (p:=rN g (q+j*5+4)) bl bl).trans aU;clear a7;go_upto_region 4 with fail;have G:=(afw wr).al rV (jC B z E o C c1 v D c2);have a6:=ZU.below G;have I:=W.Ew (z8.below G) V;have Y:BZ (wr.alloc (jC B z E o C c1 v D c2)) wr.heap.size B z E o C c1 v D c2:=World.alloc_heap_new wr _;have T:=KH.trans (sa.of (g:=b) (G.mono iO));have a1:=ZQ.trans (z8.below G);have a2:=bn.R0 T y a0;have b2:wr.heap.size≠b:=iY;generalize wr.alloc _=ab at*;generalize wr.heap.size=cb at*;by_cases ct:j=0
    ·have br:¬(0:Int)<(j:Int):=V;have b7:IM j m=m:=rB V;clear ct;rw[b7]at WT;have b6:=I.c0;obtain⟨c5,c6,c7,c8,c9⟩:=Y.at_;go_wp2_with fail;refine tZ (Mx (j:Int) ab) ?_;go_wp2_with fail;refine sG (Z x a9 aa _ b d (m) X B z E o C c1 v D c2 a2 y a6) fun c4 ⟨YV,S,O⟩=> ?_
     have hoz:=T.trans S;have hfz:=a1.trans O;exact mX
    ·have br:(0:Int)<(j:Int):=V;have b8:IM j m=xL m [44]:=rG V;rw[b8]at WT;have cp:=I.c0;go_wp2_with fail;refine sG (xr b d m [44] ab a6 bA) fun c3 ⟨bO,a5,M⟩=> ?_
     have b0:=I.Ew M V;have b1:=Y.Ew M b2;have bp:=a2.R0 a5 y a0;have bx:=T.trans a5;have be:=a1.trans M;have b6:=b0.c0;obtain⟨c5,c6,c7,c8,c9⟩:=b1.at_;go_wp2_with fail;refine tZ (Mx (j:Int) c3) ?_;go_wp2_with fail;refine sG (Z x a9 aa _ b d (xL m [44]) X B z E o C c1 v D c2 bp y bO) fun c4 ⟨YV,S,O⟩=> ?_
     have hoz:=bx.trans S;have hfz:=be.trans O;exact mX
   ·have b5:R=m:=qj;have bs:¬(j:Int)<(n:Int):=V;subst b5;go_wp2_with fail;refine sG (xr b d R [93] wr ZU bA) fun d2 ⟨SZ,Dy,YS⟩=> ?_
    exact gu
end Go.Proofs.YtccjlcadbpinfaaGreatDoor.Tp
namespace Go.Proofs.YtccjlcadbpinfaaGreatDoor.Tp
open ChangeShapes WideShapes ChangeAt RowKit
open Num Mem Can
structure GQ(b base T:Nat)(w w':World):Prop where
 size:w.heap.size<=w'.heap.size
 block:∀k,k<T->k<w.heap.size->k≠b->(∀cur fz,w.heap[k]?≠some (.cells cur 5 fz))->w'.heap[k]? =w.heap[k]?
 off:sa b base w w'
def OE(b m:Nat):Aq (GQ b m):=⟨fun _ w=>⟨rZ _,fun _ _ _ _ _=>rfl,sa.refl _ _ _⟩,fun h k=>⟨sn h.size k.size,fun j d g hb l=>by have e:=h.block j d g hb l;rw[k.block j d (rS g h.size) hb (by rw[e];exact l),e],h.off.trans k.off⟩,fun h o=>⟨h.size,fun j d g hb l=>h.block j (rS d o) g hb l,h.off⟩⟩
def GQ.below{b e d:Nat}{w w':World}(h:Below d w w')(hb:e<=d):GQ b e d w w':=⟨h.size,fun k g _ _ _=>h.block k g,sa.of (h.mono hb)⟩
def GQ.Ew{b d e:Nat}{w w':World}(h:z8 b w w')(l:sa b d w w'):GQ b d e w w':=⟨h.size,fun k _ g hb j=>h.block k g hb j,l⟩
def CM.kfr{w w':World}{B0 b g d:Nat}(h:CM w B0 b)(l:GQ b g d w w')(j:B0<d)(hb:B0≠b):CM w' B0 b:=(l.block B0 j h.lt hb (fun m fz e=>by unfold CM at h;exact nq)).trans h
def BZ.kfr{w w':World}{J0 b g d:Nat}{k i:Int}{t:ByteArray}{A A':aft}{n c n' c':Nat}(h:BZ w J0 k i t A n c A' n' c')(l:GQ b g d w w')(j:J0<d)(hb:J0≠b):BZ w' J0 k i t A n c A' n' c':=(l.block J0 j h.lt hb (fun m fz e=>by unfold BZ at h;exact nq)).trans h
def My(j B0 J0 b base:Nat)(st:St)(ks:List afs)(key:afs)(H:ks[j]? =some key)(a9:key.length<=1000000)(w:World)(X:afu)(k i:Int)(t:ByteArray)(A:aft)(n c:Nat)(A':aft)(n' c':Nat)(hr:Row w X 1 A' n' (uL ks))(R:∀x,X x->x<b)(ab:n'<=100000000)(N:CM w B0 b)(O:BZ w J0 k i t A n c A' n' c')(a2:base<=B0)(a3:base<=J0)(hp:Lx w b base st):Calls Tryz.prog 122 #[.int .i64 (j:Int),sg B0,sg J0] w fun e w'=>e=.returned (.tuple #[])/\Lx w' b base (xL st (sB key++[58]))/\sa b base w w'/\z8 b w w':=by
 have a4:b<base:=fh;have S:base<=w.heap.size:=by obtain⟨_,_,_,_,_,_,_,_,h,_⟩:=hp;exact h
 have Y:j<ks.length:=(rQ.1 H).1;have Z:ks[j]=key:=(rQ.1 H).2;have aa:ks.length=n':=nH;have a8:(j:Int)<(n':Int):=V;obtain⟨g,q,rfl,U,T⟩:=hr.pos V;have C:=(T j [sv ks[j]] (by simp[uL,Y])).2 0 (sv ks[j]) rfl;rw[tL,sE,Z]at C;unfold sv at C;have a6:=R g U;have W:g<w.heap.size:=V;have ad:(sB key).length<=6000002:=by unfold sB;have:=Hp key;exact kQ
 go_enter Tryz.func122,Tryz.ntmps122;refine sR (K:=GQ b base) (OE b base) (sA.of [0,1,2,3,4,5] (.fork 6 (sA.of [7,8,9,10] .nil) 7 (sA.of [6,8,9,10] .nil))) [6,7,8,9,10] bm bm bF bm bt (fun we l an=> ?_);have hBe:=N.Ew (z8.below l) V;have hJe:=O.Ew (z8.below (b:=b) l) V;have hce:=l.cl C W;have YW:=hp.below l;have hoe:sa b base w we:=sa.of (l.mono S);have hfe:z8 b w we:=z8.below l;have a5:base<=we.heap.size:=V;have a7:g<we.heap.size:=V;clear an;refine aH ?_;refine yr rfl rfl we.heap.size V (fun Q1 tv=> ?_) (fun Q1 tv=> ?_);·go_wp2_with fail;refine(ES none 0 0 we.heap.size [] key we (Mem.Own.nil _ _) V V rV).mono ?_;rintro e' v ⟨I,m,c2,rfl,D,B⟩;rw[so]at D;go_wp2_with fail;refine tv _ _ (GQ.below B V) ?_;have G:=B.size;have a0:=D.len;have F:=rd_val v 58 58 rfl;have y:=(Below.refl we.heap.size v).al G (.cells #[.int .u8 58] 5);refine aH ?_;refine se rfl rfl we.heap.size V (fun Q1 tv=> ?_);go_wp2_with fail;refine tv _ _ (GQ.below (xn.alloc G _) V) ?_;refine aH ?_;refine se rfl rfl we.heap.size V (fun Q1 tv=> ?_);go_wp2_with(at_builtin;go_must(refine zb rfl rfl (D.alloc _) rfl F V (by simp;omega) ?_);intro L M w6 Jq o);refine tv _ _ (GQ.below o V) ?_;have x8:=B.trans (y.trans o);exact mj
 ·go_wp2_with fail;refine tv _ _ (GQ.below (xn.alloc rV _) V) ?_;have F:=rd_val we 58 58 rfl;have y:=(afw we).al rV (.cells #[.int .u8 58] 5);have G:=y.l1;refine aH ?_;refine se rfl rfl we.heap.size V (fun Q1 tv=> ?_);generalize we.alloc _=v at*;go_wp2_with fail;refine(ES none 0 0 v.heap.size [] key v (Mem.Own.nil _ _) V V rV).mono ?_;rintro e' ar ⟨I,m,c2,rfl,E,z⟩;rw[so]at E;go_wp2_with fail;refine tv _ _ (GQ.below (z.mono V) V) ?_;have af:=z.size;have a0:=E.len;have a1:=F.sV z V;refine aH ?_;refine se rfl rfl we.heap.size V (fun Q1 tv=> ?_);go_wp2_with(at_builtin;go_must(refine zb rfl rfl E rfl a1 V V ?_);intro L M w6 Jq o);refine tv _ _ (GQ.below (o.mono V) V) ?_;have x8:=y.trans ((z.mono V).trans (o.mono V));exact mj
def Ui(N:Nat)(hN:J1 N)(B0 J0 b base:Nat)(st:St)(l:List J)(ks:List afs)(cv:ks.length=l.length)(bx:∀x∈ks,x.length<=1000000)(bz:∀x∈l,SizeOf.sizeOf x<=N/\yF x)(w:World)(X:afu)(k i:Int)(t:ByteArray)(A:aft)(n c:Nat)(A':aft)(n' c':Nat){B:List (List Value)}(hr:Row w X 5 A n B)(bd:B.length=l.length)(bp:∀(i:Nat)(h:i<B.length)(ch:i<l.length),uq w X B[i] l[i])(c6:Row w X 1 A' n' (uL ks))(hX:∀x,X x->x<b)(cx:n<=100000000)(a9:n'<=100000000)(G:CM w B0 b)(a1:BZ w J0 k i t A n c A' n' c')(Z:base<=B0)(a2:base<=J0)(hp:Lx w b base st):Calls Tryz.prog 117 #[.string ⟨#[123]⟩,.string ⟨#[125]⟩,.func (.func 122) #[] #[sg B0,sg J0],sg B0,sg J0] w fun e w'=>e=.returned (.tuple #[])/\Lx w' b base (xL (Bb l ks 0 (xL st [123])) [125])/\sa b base w w'/\z8 b w w':=by
 have C:b<base:=fh;have aa:l.length=n:=cn;have HL:=rz aa;clear aa;have ci:=G.c0;obtain⟨R,M⟩:=sW (Bb l ks 0 (xL st [123]));rw[<-M];have az:=rz M;clear M;go_enter Tryz.func117,Tryz.ntmps117;go_wp2_with fail;refine sG (xr b base st [123] w hp bA) fun d2 ⟨c4,bO,O⟩=> ?_
 have cj:=G.Ew O V;have b4:=a1.Ew O V;obtain⟨j0,cz,cA,cE,cR⟩:=b4.at_;go_wp2_with fail;go_loopw [16] (fun U wr=>∃(j:Nat)(d:St),U=.int .i64 j/\j<=n/\Lx wr b base d/\R=Bb (l.drop j) (ks.drop j) j d/\sa b base w wr/\z8 b w wr) (fun U _=>n-(intOf U).toNat);case atStart=>exact⟨0,xL st [123],rfl,sb _,c4,az.out,bO,O⟩
 case
  round=>
   obtain⟨j,d,rfl,cs,ZU,a6,KH,ZQ⟩:=hrel;have W:=rz a6;clear a6;have I:=G.Ew ZQ V;have ck:=I.c0;have cy:=KH.size;by_cases Dx:j<n
   ·have Fg:j<l.length:=dv;have bw:(j:Int)<(n:Int):=V;obtain⟨g,q,x,k1,i1,t1,A1,n1,c1,A2,n2,c2,rfl,bn,hx,br,aU,b0,b1,b2,b3⟩:=zr hr bd bp Dx;have an:l[j]=x:=du;obtain⟨hxs,hxw⟩:=bz x (an▸sj Fg);have bj:l.drop j=x::l.drop (j+1):=by rw[rM Fg,an]
    have E:j<ks.length:=V;obtain⟨key,F⟩:∃key,ks[j]? =some key:=⟨_,rD E⟩;have a7:ks[j]=key:=by rw[rD E]at F;injection F
    have a8:=bx key (a7▸sj E);have be:ks.drop j=key::ks.drop (j+1):=by rw[rM E,a7]
    have af:R=Bb (l.drop (j+1)) (ks.drop (j+1)) (j+1) (yB x (xL (IM j d) (sB key++[58]))):=by rw[W.out,bj,be];rfl
    have c8:=c6.keep (fun q hq=>KH.cell bM bM) ug;have Y:=rz F;clear F;have WT:=rz af;have cr:=hX g bn;have cS:=(KH.cell (p:=rN g (q+j*5)) bl bl).trans aU;have cW:=(KH.cell (p:=rN g (q+j*5+1)) bl bl).trans b0;have cZ:=(KH.cell (p:=rN g (q+j*5+2)) bl bl).trans b1;have d0:=(KH.cell (p:=rN g (q+j*5+3)) bl bl).trans b2;have d1:=(KH.cell (p:=rN g (q+j*5+4)) bl bl).trans b3;have b6:=a1.Ew ZQ V;clear af;go_upto_region 4 with fail;have o:=(afw wr).al rV (jC k1 i1 t1 A1 n1 c1 A2 n2 c2);have ab:=ZU.below o;have v:=I.Ew (z8.below o) V;have K:BZ (wr.alloc (jC k1 i1 t1 A1 n1 c1 A2 n2 c2)) wr.heap.size k1 i1 t1 A1 n1 c1 A2 n2 c2:=World.alloc_heap_new wr _;have a3:=b6.Ew (z8.below (b:=b) o) V;have ad:=yZ c8 o (fun z c9=>by have:=hX z c9;have:=I.lt;omega);have T:=KH.trans (sa.of (g:=b) (o.mono iO));have a4:=ZQ.trans (z8.below o);have a5:=br.R0 T hX C;have L:wr.heap.size≠b:=iY;generalize wr.alloc _=ar at*;generalize wr.heap.size=cf at*;by_cases ct:j=0
    ·have bv:¬(0:Int)<(j:Int):=V;have b8:IM j d=d:=rB V;clear ct;rw[b8]at WT;have hbW:=v.c0;obtain⟨x0,x1,x2,x3,x4⟩:=K.at_;go_wp2_with fail;refine sG (My j B0 J0 b base (d) ks key Y.out a8 ar X k i t _ n c A' n' c' ad hX a9 v a3 Z a2 ab) fun cc ⟨hp6,y,m⟩=> ?_
     have hB6:=v.Ew m V;have hE6:=K.Ew m L;have abR:=a5.R0 y hX C;have abU:=T.trans y;have abN:=a4.trans m;exact mO
    ·have bv:(0:Int)<(j:Int):=V;have b9:IM j d=xL d [44]:=rG V;rw[b9]at WT;have cp:=v.c0;go_wp2_with fail;refine sG (xr b base d [44] ar ab bA) fun cb ⟨c5,S,D⟩=> ?_
     have H:=v.Ew D V;have a0:=K.Ew D L;have bs:=a5.R0 S hX C;have b5:=a3.Ew D V;have c7:=ad.keep (fun q hq=>S.cell bM bM) ug;have c3:=T.trans S;have bk:=a4.trans D;have hbW:=H.c0;obtain⟨x0,x1,x2,x3,x4⟩:=a0.at_;go_wp2_with fail;refine sG (My j B0 J0 b base (xL d [44]) ks key Y.out a8 cb X k i t _ n c A' n' c' c7 hX a9 H b5 Z a2 c5) fun cc ⟨hp6,y,m⟩=> ?_
     have hB6:=H.Ew m V;have hE6:=a0.Ew m L;have abR:=bs.R0 y hX C;have abU:=c3.trans y;have abN:=bk.trans m;exact mO
   ·have b7:R=d:=by rw[W.out,sx da];unfold Bb;rfl
    have bw:¬(j:Int)<(n:Int):=V;subst b7;go_wp2_with fail;refine sG (xr b base R [125] wr ZU bA) fun d3 ⟨SZ,Dy,YS⟩=> ?_
    exact gu
def MM(a b:Int):Bool:=if a=3 then decide (3<=b)&&decide (b<=6)else if a=4 then decide (4<=b)&&decide (b<=6)else if a=5 then decide (b=5)||decide (b=6)else if a=7\/a=8 then decide (b=7)||decide (b=8)else decide (a=b)&&decide (1<=a)&&decide (a<=8)
def MF(w r:Nd):Bool:=decide (vU w.name=vU r.name)||r.aliases.contains w.name
def G3(w:Nd)(d:afs):Int:=xa (fun f:Fd=>decide (f.name=d)) w.fields
def P7{d:Type}(p:d->Bool):∀l:List d, -1<=xa p l/\xa p l<l.length
 | []=>by simp[xa]
 |x::r=>
 by
  have:=P7 p r;simp only[xa,rP];split;·omega
  ·split<;>omega
def Kh(w:Nd)(d:afs): -1<=G3 w d/\G3 w d<w.fields.length:=P7 _ _
def Ez(d:List Bool)(a:Int):List Bool:=if 0<=a then d.set a.toNat true else d
def Pg(w:Nd):List Fd->List Bool×List Int->List Bool×List Int
 | [],s=>s
 |f::r,s=>Pg w r (Ez s.1 (G3 w f.name),s.2++[G3 w f.name])
def Ph(w:Nd)(i:Nat)(a:afs)(s:List Bool×List Int):List Bool×List Int:=if(decide (s.2.getD i 0<0)&&decide (0<=G3 w a)&& !s.1.getD (G3 w a).toNat false)=true then(s.1.set (G3 w a).toNat true,s.2.set i (G3 w a))else s
def SD(w:Nd)(i:Nat):List afs->List Bool×List Int->List Bool×List Int
 | [],s=>s
 |a::r,s=>SD w i r (Ph w i a s)
def M3(w:Nd):Nat->List Fd->List Bool×List Int->List Bool×List Int
 |_,[],s=>s
 |i,f::r,s=>M3 w (i+1) r (SD w i f.aliases s)
structure Av(w:Nd)(n:Nat)(s:List Bool×List Int):Prop where
 tk:s.1.length=w.fields.length
 out:s.2.length=n
 bd:∀a∈s.2, -1<=a/\a<w.fields.length
def SF(d:List Bool)(a:Int):(Ez d a).length=d.length:=by unfold Ez;split<;>simp
def Lc(w:Nd):∀(l:List Fd)(n:Nat)(s:List Bool×List Int),Av w n s->Av w (n+l.length) (Pg w l s)
 | [],n,s,h=>h
 |f::r,n,s,h=>
 by
  have:=Lc w r (n+1) (Ez s.1 (G3 w f.name),s.2++[G3 w f.name]) ⟨by rw[SF];exact h.tk,by simp[h.out],fun a d=>
   by
    rcases sI.1 d with d|d;·exact h.bd a d
    ·rw[sJ.1 d];exact Kh w f.name⟩
  rw[rP,show n+(r.length+1)=n+1+r.length from V];exact this
def Qw{w:Nd}{n i:Nat}{a:afs}{s:List Bool×List Int}(h:Av w n s):Av w n (Ph w i a s):=by
 unfold Ph;split
 ·refine⟨by simp[h.tk],by simp[h.out],fun b hb=> ?_⟩;rcases List.mem_or_eq_of_mem_set hb with hb|rfl;·exact h.bd b hb
  ·exact Kh w a
 ·exact h
def Qx{w:Nd}{n i:Nat}:∀{l:List afs}{s:List Bool×List Int},Av w n s->Av w n (SD w i l s)
 | [],s,h=>h
 |a::r,s,h=>Qx (l:=r) (Qw (a:=a) h)
def Qv{w:Nd}{n:Nat}:∀{l:List Fd}{i:Nat}{s:List Bool×List Int},Av w n s->Av w n (M3 w i l s)
 | [],_,s,h=>h
 |f::r,i,s,h=>Qv (l:=r) (i:=i+1) (Qx (l:=f.aliases) (i:=i) h)
def Pj(w:Nd):List Bool×List Int:=(List.replicate w.fields.length false,[])
def Qy(w:Nd):Av w 0 (Pj w):=⟨by simp[Pj],rfl,fun a d=>by cases d⟩
def Pk(w r:Nd):List Int:=(M3 w 0 r.fields (Pg w r.fields (Pj w))).2
def Yg(w r:Nd):Av w r.fields.length (M3 w 0 r.fields (Pg w r.fields (Pj w))):=Qv (by have:=Lc w r.fields 0 _ (Qy w);rwa[tq]at this)
def Yp(w:Nd)(a:Int):Int:=match w.fields[a.toNat]? with
 |some f=>f.type
 |none=>0
def Sg(d:Int->Int->Bool)(w:Nd):List Int->List Fd->Bool
 |a::l,f::r=>if(decide (a<0)&& !f.has||decide (0<=a)&&d (Yp w a) f.type)=true then false else Sg d w l r
 |_,_=>true
def X7(d:Int->Int->Bool)(w r:Nd):Bool:=Sg d w (Pk w r) r.fields&&MF w r
def Mp(d:Int->Int->Bool)(w r:Nd)(i k:Int):Bool:=if w.kind=13 then w.rX.any fun b=> !d b k else if r.kind=13 then r.rX.any fun b=> !d i b else if w.kind<=8 then MM w.kind r.kind else if w.kind≠r.kind then false else if sr w.kind=false then !d w.items r.items else if w.kind=9 then X7 d w r else MF w r&&decide (w.size=r.size)
def Ry(W R:List Nd)(d:Int->Int->Bool)(i k:Nat):Bool:=match W[i]?,R[k]? with
 |some w,some r=>Mp d w r i k
 |_,_=>false
def IC(l:List (Int×Int))(a b:Int):Bool:=l.contains (a,b)
def M6(W R:List Nd)(i k:Nat)(l:List (Int×Int)):List (Int×Int):=if(!IC l i k&& !Ry W R (IC l) i k)=true then((i:Int),(k:Int))::l else l
def Pn(W R:List Nd)(i:Nat):Nat->Nat->List (Int×Int)->List (Int×Int)
 |0,_,l=>l
 |d+1,k,l=>Pn W R i d (k+1) (M6 W R i k l)
def Pm(W R:List Nd):Nat->Nat->List (Int×Int)->List (Int×Int)
 |0,_,l=>l
 |d+1,i,l=>Pm W R d (i+1) (Pn W R i R.length 0 l)
def M7(W R:List Nd)(l:List (Int×Int)):List (Int×Int):=Pm W R W.length 0 l
def Yk(W R:List Nd):Nat->List (Int×Int)->List (Int×Int)
 |0,l=>l
 |f+1,l=>if(M7 W R l).length=l.length then M7 W R l else Yk W R f (M7 W R l)
def Po(W R:List Nd):List (Int×Int):=Yk W R (W.length*R.length+1) []
structure Bz(n m:Nat)(l:List (Int×Int)):Prop where
 nod:l.Pairwise (·≠·)
 bd:∀p∈l,(0<=p.1/\p.1<n)/\0<=p.2/\p.2<m
section
variable(a b:Int)(w:World){n m:Nat}{W R:List Nd}{i k:Nat}{g d l:List (Int×Int)}{e:Int}
def U1{j:Type} [DecidableEq j]:∀(l l':List j),l.Pairwise (·≠·)->(∀x∈l,x∈l')->l.length<=l'.length
 | [],_,_,_=>sb _
 |x::r,l',h,d=>
 by
  obtain⟨m,o⟩:=List.pairwise_cons.1 h;have e:=d x bA;have:=U1 r (l'.erase x) o fun y g=>(List.mem_erase_of_ne (m y g).symm).2 (d y (by simp[g]))
  rw[List.length_erase_of_mem e]at this;have:=Bh e;exact kX
def X0(n m:Nat):List (Int×Int):=(List.range n).flatMap fun(i:Nat)=>(List.range m).map fun(k:Nat)=>((i:Int),(k:Int))
def Vl(n m:Nat):(X0 n m).length=n*m:=by
 induction n with
 |zero=>simp[X0]
 |succ n d=>simp only[X0]at*;rw[List.range_succ,xO,rL,d,zF];simp
def Bz.le(h:Bz n m l):l.length<=n*m:=by
 rw[<-Vl];refine U1 l _ h.nod fun p o=> ?_
 obtain⟨⟨d,e⟩,g,j⟩:=h.bd p o;obtain⟨a,b⟩:=p;simp only at d e g j;simp only[X0,List.mem_flatMap,List.mem_range,ti,Prod.mk.injEq];exact⟨a.toNat,V,b.toNat,V,V,V⟩
def QA(h:Bz W.length R.length l)(o:i<W.length)(q:k<R.length):Bz W.length R.length (M6 W R i k l):=by
 unfold M6;split
 ·rename_i g;have m:((i:Int),(k:Int))∉l:=by intro j;simp[IC,j]at g
  refine⟨List.pairwise_cons.2 ⟨fun p d e=>m (e▸d),h.nod⟩,fun p d=> ?_⟩;rcases sD.1 d with rfl|d;·exact bl
  ·exact h.bd p d
 ·exact h
def Yi(W R:List Nd)(i k:Nat)(l:List (Int×Int)):l.length<=(M6 W R i k l).length:=by unfold M6;split<;>simp
def QC{W R:List Nd}{i:Nat}(e:i<W.length):∀(d k:Nat)(l:List (Int×Int)),k+d=R.length->Bz W.length R.length l->Bz W.length R.length (Pn W R i d k l)/\l.length<=(Pn W R i d k l).length
 |0,_,_,_,h=>⟨h,rZ _⟩
 |d+1,k,l,g,h=>by obtain⟨a,b⟩:=QC e d (k+1) _ V (QA (k:=k) h e V);exact⟨a,sn (Yi W R i k l) b⟩
def QB{W R:List Nd}:∀(d i:Nat)(l:List (Int×Int)),i+d=W.length->Bz W.length R.length l->Bz W.length R.length (Pm W R d i l)/\l.length<=(Pm W R d i l).length
 |0,_,_,_,h=>⟨h,rZ _⟩
 |d+1,i,l,j,h=>by obtain⟨e,g⟩:=QC (W:=W) (R:=R) (i:=i) V R.length 0 l V h;obtain⟨a,b⟩:=QB d (i+1) _ V e;exact⟨a,sn g b⟩
def Yj(h:Bz W.length R.length l):Bz W.length R.length (M7 W R l)/\l.length<=(M7 W R l).length:=QB _ _ _ V h
def JZ(W R:List Nd)(e:List (Int×Int))(d:Int)(l:List (Int×Int)):Prop:=Bz W.length R.length l/\ -1<=d/\((d<l.length/\∃f,W.length*R.length<f+l.length/\e=Yk W R f l)\/(d=l.length/\e=l))
def Pp(W R:List Nd):JZ W R (Po W R) (-1) []:=⟨⟨List.Pairwise.nil,fun p d=>by cases d⟩,V,.inl ⟨bA,_,bA,rfl⟩⟩
def JZ.step{m:Int}(h:JZ W R g m l)(x:m<l.length):JZ W R g l.length (M7 W R l):=by
 obtain⟨o,q,p⟩:=h;obtain⟨j,y⟩:=Yj o;refine⟨j,V,?_⟩;rcases p with⟨_,f,v,d⟩|⟨e,_⟩
 ·have:=j.le;cases f with
  |zero=>omega
  |succ f=>
   simp only[Yk]at d;by_cases e:(M7 W R l).length=l.length;·rw[rG e]at d;exact .inr ⟨V,d⟩
   ·rw[rB e]at d;exact .inl ⟨V,f,V,d⟩
 ·omega
def JZ.done(h:JZ W R d e l)(g:¬e<l.length):d=l:=by
 obtain⟨_,_,⟨h,_⟩|⟨_,h⟩⟩:=h;·exact absurd h g
 ·exact h
def JZ.adH(h:JZ W R d e l):l.length<=W.length*R.length:=h.1.le
def JX:Calls Tryz.prog 100 #[.int .i64 a,.int .i64 b] w (zW w (.bool (MM a b))):=by
 obtain⟨R,j⟩:=sW (MM a b);rw[<-j];unfold MM at j;have HR:=rz j;clear j;have v:∀x:Bool,x=R->Calls Tryz.prog 100 #[.int .i64 a,.int .i64 b] w ((zW w (.bool x)))->Calls Tryz.prog 100 #[.int .i64 a,.int .i64 b] w (zW w (.bool R)):=fun x h B=>h▸B
 by_cases o:a=3;·subst o;by_cases d:3<=b<;>by_cases g:b<=6;all_goals(refine v (decide (3<=b)&&decide (b<=6)) dA ?_;simp only[d,g,wF,Dv,xA,JT];go_enter zH,yE;go_wp2_with fail;go_ret;exact⟨rfl,rfl⟩)
 have G:(a==3)=false:=rA.2 o;by_cases p:a=4;·subst p;by_cases d:4<=b<;>by_cases g:b<=6;all_goals(refine v (decide (4<=b)&&decide (b<=6)) dA ?_;simp only[d,g,wF,Dv,xA,JT];go_enter zH,yE;go_wp2_with fail;go_ret;exact⟨rfl,rfl⟩)
 have H:(a==4)=false:=rA.2 p;by_cases q:a=5
 ·subst q;by_cases d:b=5;·subst d;refine v true dA ?_;go_enter zH,yE;exact bI
  ·have C:(b==5)=false:=rA.2 d;refine v (decide (b=6)) (by rw[HR.out];simp[d]) ?_;by_cases g:b=6;·subst g;go_enter zH,yE;exact bI
   ·have D:(b==6)=false:=rA.2 g;simp only[g,Dv];go_enter zH,yE;exact bI
 have I:(a==5)=false:=rA.2 q;by_cases l:a=7\/a=8
 ·have hb:∀a:Int,a=7\/a=8->Calls Tryz.prog 100 #[.int .i64 a,.int .i64 b] w (zW w (.bool (decide (b=7)||decide (b=8)))):=by
   by_cases d:b=7;·subst d;exact gT
   ·have E:(b==7)=false:=rA.2 d;by_cases g:b=8;·subst g;exact gT
    ·have F:(b==8)=false:=rA.2 g;simp only[d,g,Dv,Cr];rintro a (rfl|rfl);all_goals(go_enter zH,yE;go_wp2_with fail;go_ret;exact⟨rfl,rfl⟩)
  have hb:=hb a l;rwa[show R=(decide (b=7)||decide (b=8))by rw[HR.out,rB o,rB p,rB q,rG l]]
 have K:(a==7)=false:=rA.2 fun h=>l (.inl h)
 have L:(a==8)=false:=rA.2 fun h=>l (.inr h)
 have j:R=(decide (a=b)&&decide (1<=a)&&decide (a<=8)):=by rw[HR.out,rB o,rB p,rB q,rB l]
 rw[j];clear j;by_cases e:a=b;·subst e;by_cases y:1<=a<;>by_cases z:a<=8;all_goals(simp only[y,z,wF,Dv,xA,JT];go_enter zH,yE;go_wp2_with fail;go_ret;exact⟨rfl,rfl⟩)
 ·have m:(a==b)=false:=rA.2 e;simp only[e,Dv,tO];go_enter zH,yE;exact bI
end
end Go.Proofs.YtccjlcadbpinfaaGreatDoor.Tp
namespace Go.Proofs.YtccjlcadbpinfaaGreatDoor.Tp
open Num Mem Can
def xq{xs:afs}{a:Nat}{c:UInt8}{r:afs}(h:xs.drop a=c::r):pk xs a=c/\xs.drop (a+1)=r/\a<xs.length:=by
 have e:a<xs.length:=by
  rcases tE a xs.length with d|d;·exact d
  ·rw[tD d]at h;cases h
 rw[rM e]at h;injection h with h1 h2;exact⟨by unfold pk;rw[List.getD,rD e,h1];rfl,h2,e⟩
def AE{xs s r:afs}{a:Nat}(h:xs.drop a=s++r):xs.drop (a+s.length)=r:=by rw[<-Bf,h,List.drop_left]
def aak{xs:afs}{a:Nat}(h:xs.drop a=[]):pk xs a=0:=by have:=JV.1 h;unfold pk;rw[List.getD,tu this];rfl
def GG{xs:afs}{a:Nat}{c:UInt8}{r:afs}(h:xs.drop a=c::r)(d:xo c=false):wj xs a=a:=by unfold wj;rw[h,LM,d];simp
def VD{xs:afs}{a:Nat}(h:xs.drop a=[]):wj xs a=a:=by unfold wj;rw[h];rfl
def Ea(r:afs):Prop:=∀c s,r=c::s->xd c=false/\c≠46
def Ea.pk{xs r:afs}{a:Nat}(h:Ea r)(d:xs.drop a=r):xd (pk xs a)=false/\Tp.pk xs a≠46:=by
 cases r with
 |nil=>rw[aak d];exact⟨bH,bH⟩
 |cons c s=>rw[(xq d).1];exact h c s rfl
def xN{xs:afs}{a:Nat}{c:UInt8}{r:afs}(k:Nat)(h:xs.drop a=c::r)(d:Lib.indexByte xI c=k)(g:xo c=false):sH xs a=.ok ⟨1+k,0,[],a,a+1⟩:=by
 have e:=xq h;have j:vG xs a=(1+(k:Int),0,[],a+1,0):=by unfold vG;rw[e.1,d,rG V]
 unfold sH;rw[GG h g,rB V,j];simp
def VI{xs:afs}{a:Nat}(h:xs.drop a=[])(d:a<=xs.length):sH xs a=.ok ⟨11,0,[],xs.length,xs.length⟩:=by have:=JV.1 h;unfold sH;rw[VD h,rG V]
def Uk:∀c:UInt8,0<=Lib.indexByte tW c/\c≠47->Kq (CY.getD (Lib.indexByte tW c).toNat 0)=some c:=by have key:∀k:Fin 256,0<=Lib.indexByte tW (UInt8.ofNat k.val)/\UInt8.ofNat k.val≠47->Kq (CY.getD (Lib.indexByte tW (UInt8.ofNat k.val)).toNat 0)=some (UInt8.ofNat k.val):=bF;exact iT
def X4:∀c:UInt8,128<=c.toNat->CJ c=[c]:=by have key:∀k:Fin 256,128<=(UInt8.ofNat k.val).toNat->CJ (UInt8.ofNat k.val)=[UInt8.ofNat k.val]:=bF;exact iT
def P2:∀k,k<16->Gg (Ci.getD k 0)=some k:=by have key:∀k:Fin 16,Gg (Ci.getD k.val 0)=some k.val:=bF;intro k h;exact key ⟨k,h⟩
def SK{c:Nat}(h:128<=c)(d:c<=1114111):∀b∈Ut.uu c,128<=b.toNat:=by
 intro b hb;unfold Ut.uu at hb;repeat' split at hb
 all_goals
  simp only[sD,uT,CI]at hb;first
   |omega
   |(rcases hb with rfl|rfl<;>simp only[DI]<;>omega)
   |(rcases hb with rfl|rfl|rfl<;>simp only[DI]<;>omega)
   |(rcases hb with rfl|rfl|rfl|rfl<;>simp only[DI]<;>omega)
def Jj:∀l:afs,(∀b∈l,128<=b.toNat)->l.flatMap CJ=l
 | [],_=>rfl
 |b::r,h=>by rw[Bg,X4 b (h b (uj ..)),Jj r (fun x d=>h x (uS _ d))];rfl
def X6{xs:afs}:∀(n:Nat)(t:afs),t.length<=n->yX t=true->∀(f a:Nat)(ts r:afs),xs.drop a=t.flatMap CJ++34::r->(t.flatMap CJ).length<f->D0 xs f a ts=(ts++t,a+(t.flatMap CJ).length+1,0):=by
 intro n;induction n with
 |zero=>intro t H _ f a ts r h hf;obtain rfl:t=[]:=rT V;obtain⟨f,rfl⟩:∃z,f=z+1:=⟨f-1,V⟩;rw[OS (xq h).1];simp
 |succ n x=>
  intro t H hr f a ts r h hf;obtain⟨f,rfl⟩:∃z,f=z+1:=⟨f-1,V⟩;cases t with
  |nil=>rw[OS (xq h).1];simp
  |cons c t=>
   have I:(Ut.wu (c::t)).2.2=0:=by apply D3;intro Z;unfold yX at hr;rw[Ut.Il bA Z]at hr;cases hr
   have o:yX ((c::t).drop (Ut.wu (c::t)).2.1)=true:=by unfold yX at hr|-;rw[Ut.JP I]at hr;exact jx
   by_cases v:c.toNat<128
   ·have Y:=Ut.Nh v t;rw[Y]at o;simp only[zV,zf]at o;rw[Bg,sw]at h;rw[Bg,rL]at hf;rw[Bg,rL];simp only[rP]at H;rcases MN c with⟨k,h1,h2,_,l⟩|⟨_,h2,l⟩|⟨h1,h2,l⟩|⟨_,h2,l⟩
    ·have F:=Uk c ⟨V,h2⟩;rw[h1,su]at F;rw[l]at h hf|-;have d:=xq h;have q:=xq d.2.1;have B:xx xs (a+1)=(a+1+1,[c],0):=by unfold xx;rw[q.1,F]
     rw[OU d.1,B,rG rfl,x t V o f _ _ r q.2.1 fP];exact gV
    ·rw[l]at h hf|-;have d:=xq h;have q:=xq d.2.1;have L:=xq q.2.1;have M:=xq L.2.1;have N:=xq M.2.1;have O:=xq N.2.1;have a2:vI xs 4 (a+1+1) 0=((c.toNat:Int),a+1+1+1+1+1+1):=by simp only[vI,L.1,M.1,N.1,O.1,show Gg 48=some 0 from rfl,P2 _ (show c.toNat/16<16 from V),P2 _ (show c.toNat%16<16 from V)];congr 1;omega
     have U:CZ xs (a+1)=((c.toNat:Int),a+1+1+1+1+1+1):=by unfold CZ;rw[a2,rB (by intro h;have:=h.1;exact dJ)]
     have X:Ut.yR (c.toNat:Int)=true:=by unfold Ut.yR;simp;omega
     have a0:Ut.uu c.toNat=[c]:=by unfold Ut.uu;rw[rG V];simp
     have B:xx xs (a+1)=(a+1+1+1+1+1+1,[c],0):=by unfold xx;rw[q.1,show Kq 117=none from bF,U];simp only[X,su,a0,uy,ne_eq,not_true,xy]
     rw[OU d.1,B,rG rfl,x t V o f _ _ r O.2.1 fP];exact gV
    all_goals
     have S:c≠34:=ox;have T:c≠92:=ox;have R:¬c.toNat<32:=by first|omega|(subst h2;decide)
     rw[l]at h hf|-;have d:=xq h;have D:Ut.wu (xs.drop a)=(c.toNat,1,0):=by rw[h];exact Ut.Nh v _
     rw[KU (by rw[d.1];exact R) (by rw[d.1];exact S) (by rw[d.1];exact T),D,rG rfl];have y:(xs.drop a).take 1=[c]:=by rw[h];rfl
     rw[y,x t V o f _ _ r d.2.1 fP];simp only[rP,sl,sw,si,so];congr 2;omega
   ·obtain⟨a3,a4,j,p⟩:=Ut.We I;generalize a8:(Ut.wu (c::t)).2.1=m at*;generalize a5:(Ut.wu (c::t)).1=g at*;have K:=Ut.EA g;generalize a9:(c::t).drop m=rest at*;have W:128<=g:=by
     apply D3;intro a7;have e:Ut.uu g=[UInt8.ofNat g]:=by unfold Ut.uu;rw[rG V]
     rw[e]at j;injection j with j _;rw[<-j]at v;simp only[DI]at v;omega
    have G:=SK W a4;have C:(c::t).flatMap CJ=Ut.uu g++rest.flatMap CJ:=by rw[<-j,xO,Jj _ G]
    have a6:(c::t).length=m+rest.length:=by rw[<-j,rL,p]
    rw[C,sw]at h;rw[C,rL]at hf;rw[C,rL,<-p];have D:Ut.wu (xs.drop a)=(g,m,0):=by rw[h,Ut.Wi a3,p]
    have E:=AE h;rw[<-p]at E;have y:(xs.drop a).take m=Ut.uu g:=by rw[h,p];simp
    have hpk:128<=(pk xs a).toNat:=by
     obtain⟨b,s,hb⟩:∃b s,Ut.uu g=b::s:=by cases a1:Ut.uu g with
     |nil=>rw[a1]at K;simp at K
     |cons b s=>exact⟨b,s,rfl⟩
     rw[hb]at h;rw[(xq h).1];exact G b (by rw[hb];exact uj ..)
    rw[KU V o6 o6,D,rG rfl,y,x rest V o f _ _ r E V,sw,j];congr 2;omega
def JK{xs:afs}{a:Nat}{t r:afs}(h:xs.drop a=sB t++r)(j:yX t=true):sH xs a=.ok ⟨10,0,t,a,a+(sB t).length⟩:=by
 unfold sB at h;rw[si,sw]at h;have d:=xq h;have e:=CF List.length d.2.1;simp only[sU,rL,rP,sl]at e;have g:=X6 _ t rV j (xs.length+1-(a+1)) (a+1) [] r d.2.1 V;have l:vG xs a=(10,0,t,a+(sB t).length,0):=by unfold vG;rw[d.1,rB bH,rG rfl,g];simp only[so,sB,rP,rL,sl];congr 4;omega
 unfold sH;rw[GG h bH,rB V,l];simp
def EB:afs->Nat->Nat
 | [],v=>v
 |c::r,v=>EB r (v*10+(c.toNat-48))
def Wj(l:afs)(c:UInt8):∀v,EB (l++[c]) v=EB l v*10+(c.toNat-48):=by
 induction l with
 |nil=>intro v;rfl
 |cons x r d=>intro v;simp only[si,EB];exact d _
def Yt(l:afs):∀v,v<=EB l v:=by
 induction l with
 |nil=>intro v;exact jF
 |cons x r d=>intro v;simp only[EB];have:=d (v*10+(x.toNat-48));omega
def Od(k:Nat)(h:k<10):vS (UInt8.ofNat (48+k))=true/\(UInt8.ofNat (48+k)).toNat=48+k:=by have:(UInt8.ofNat (48+k)).toNat=48+k:=cw;exact⟨by unfold vS;rw[this];simp;omega,this⟩
def PV:∀(f u:Nat),u<10^(f+1)->(∀c∈(vB f u).reverse,vS c=true)/\EB (vB f u).reverse 0=u/\(vB f u).reverse≠ []/\(u<=9->(vB f u).reverse.length=1)/\∀c s,(vB f u).reverse=c::s->c=48->u=0
 |0,u,h=>
 by
  obtain⟨m,o⟩:=Od u V;refine⟨?_,?_,by simp[vB],by simp[vB],?_⟩;·unfold vB;generalize UInt8.ofNat (48+u)=c at*;simp[m]
  ·unfold vB;generalize UInt8.ofNat (48+u)=c at*;simp only[QS,List.reverse_nil,so,EB];omega
  intro c s g d;simp only[vB,QS,List.reverse_nil,so,List.cons.injEq]at g;obtain⟨rfl,_⟩:=g;rw[d]at o;have:(48:UInt8).toNat=48:=rfl;omega
 |f+1,u,h=>
 by
  by_cases q:9<u
  ·obtain⟨m,o,v,B,z⟩:=PV f (u/10) (by rw[QV]at h;omega);obtain⟨j,l⟩:=Od (u%10) V;have e:(vB (f+1) u).reverse=(vB f (u/10)).reverse++[UInt8.ofNat (48+u%10)]:=by rw[vB,rG q,QS]
   rw[e];refine⟨?_,?_,bA,V,?_⟩
   ·intro c d;rw[sI,sJ]at d;rcases d with d|rfl;·exact m c d
    ·exact j
   ·rw[Wj,o,l];omega
   ·intro c s g d;cases p:(vB f (u/10)).reverse with
    |nil=>exact absurd p v
    |cons x y=>rw[p,si]at g;injection g with g _;have:=z x y p (g.trans d);omega
  ·have e:(vB (f+1) u).reverse=[UInt8.ofNat (48+u)]:=by rw[vB,rB q];rfl
   obtain⟨j,l⟩:=Od u V;rw[e];refine⟨?_,?_,bA,bA,?_⟩;·generalize UInt8.ofNat (48+u)=c at*;simp[j]
   ·generalize UInt8.ofNat (48+u)=c at*;simp only[EB];omega
   intro c s g d;injection g with g _;rw[<-g]at d;rw[d]at l;have:(48:UInt8).toNat=48:=rfl;omega
def FU:∀(l r:afs)(v:Nat),(∀c∈l,vS c=true)->(∀c s,r=c::s->vS c=false)->EB l v<=9223372036854775808->zO (l++r) (-(v:Int)) false=(-(EB l v:Int),false,l.length)
 | [],r,v,_,d,_=>
 by
  cases r with
  |nil=>rfl
  |cons c s=>simp only[so,zO,d c s rfl,EB];simp
 |c::l,r,v,g,d,j=>
 by
  have e:=g c (uj ..);have q:=Yt l (v*10+(c.toNat-48));simp only[EB]at j;have p:48<=c.toNat/\c.toNat<=57:=by simpa[vS]using e
  have m:yv (-(v:Int)) false c=(-((v*10+(c.toNat-48):Nat):Int),false):=by
   unfold yv;rw[rB];·congr 1;omega
   ·rw[show(-9223372036854775808+((c.toNat:Int)-48):Int)= -(9223372036854775808-((c.toNat:Int)-48))from V,Int.neg_tdiv,Int.tdiv_eq_ediv_of_nonneg V];omega
  rw[si,zO,rG e,m];simp only;rw[FU l r _ (fun x o=>g x (uS _ o)) d j];simp[EB]
def Q3{c:UInt8}(h:xd c=false):vS c=false:=by unfold xd at h;unfold vS;simp only[xY]at h|-;omega
def VJ{xs:afs}{a:Nat}{n:Int}{r:afs}(h:xs.drop a=zZ n++r)(G:Ea r)(a6: -9223372036854775808<=n)(a7:n<=9223372036854775807):sH xs a=.ok ⟨9,n,[],a,a+(zZ n).length⟩:=by
 obtain⟨L,M,a3,a4,a5⟩:=PV 20 n.natAbs V;have Z:∀c s,r=c::s->vS c=false:=fun c s e=>Q3 (G c s e).1
 obtain⟨x,y,m⟩:∃x y,(vB 20 n.natAbs).reverse=x::y:=by
  cases Y:(vB 20 n.natAbs).reverse with
  |nil=>exact absurd Y a3
  |cons x y=>exact⟨x,y,rfl⟩
 have H:=L x (by rw[m];exact uj ..);have K:48<=x.toNat/\x.toNat<=57:=by simpa[vS]using H
 have E:=FU (vB 20 n.natAbs).reverse r 0 L Z (by rw[M];omega);rw[M]at E;have I:x≠45:=by intro e;subst e;exact absurd K bH
 have key:∃p,x6 xs a=p/\xs.drop p=(vB 20 n.natAbs).reverse++r/\p+(vB 20 n.natAbs).reverse.length=a+(zZ n).length/\(pk xs a=45/\n<0\/pk xs a=x/\¬n<0)/\xo (pk xs a)=false/\a<xs.length/\∃s,xs.drop a=pk xs a::s:=by
  unfold zZ at h|-;by_cases q:n<0;·rw[rG q]at h|-;have g:=xq h;refine⟨a+1,by unfold x6;rw[rG g.1],g.2.1,by simp;omega,.inl ⟨g.1,q⟩,by rw[g.1];rfl,g.2.2,_,by rw[g.1];exact h⟩
  ·rw[rB q,so]at h|-;have z:=h;rw[m,si]at z;have g:=xq z;have C:xo x=false:=by have:∀k:Fin 10,xo (UInt8.ofNat (48+k.val))=false:=bF;have d:=this ⟨x.toNat-48,V⟩;simp only at d;rwa[show 48+(x.toNat-48)=x.toNat from V,xv]at d
   refine⟨a,by unfold x6;rw[rB (by rw[g.1];exact I)],h,rfl,.inr ⟨g.1,q⟩,by rw[g.1];exact C,g.2.2,_,by rw[g.1];exact z⟩
 obtain⟨p,g,o,F,l,C,a9,s,a0⟩:=key;have B:OM xs a=(-(n.natAbs:Int),false,(vB 20 n.natAbs).reverse.length):=by unfold OM;rw[g,o];exact E
 have D:Fl xs a=a+(zZ n).length:=by unfold Fl;rw[B,g];exact F
 have T:xs.drop (Fl xs a)=r:=by rw[D,<-F];exact AE o
 have v:=Ea.pk G T;have S:RY xs a=n:=by
  unfold RY;rw[B];rcases l with⟨d,j⟩|⟨d,j⟩;·rw[rG d];exact bl
  ·rw[rB (by rw[d];exact I),vw bl bl];exact bl
 have U:(vB 20 n.natAbs).reverse.length≠0:=by rw[m];simp
 have X:pk xs p=x:=by rw[m,si]at o;exact(xq o).1
 have R:WL xs a=0:=by
  unfold WL;simp only[B,g,X];rw[rB,rB,rB,rB]
  ·rintro(h|⟨d,j⟩);·cases h
   ·rcases l with⟨O,_⟩|⟨_,a8⟩;·exact d O
    ·omega
  ·rw[v.1];simp
  ·rintro(d|d|d);·exact v.2 d
   ·have:=v.1;rw[d]at this;exact absurd this bH
   ·have:=v.1;rw[d]at this;exact absurd this bH
  ·rintro(d|⟨d,j⟩);·exact U d
   ·have:=a5 x y m j;have:=a4 V;omega
 have N:pk xs a≠34:=by
  rcases l with⟨d,_⟩|⟨d,_⟩;·rw[d];decide
  ·rw[d];intro e;subst e;exact absurd K bH
 have a1:Lib.indexByte xI (pk xs a)= -1:=by
  rcases l with⟨d,_⟩|⟨d,_⟩;·rw[d];decide+kernel
  ·rw[d];have:∀k:Fin 10,Lib.indexByte xI (UInt8.ofNat (48+k.val))= -1:=bF;have j:=this ⟨x.toNat-48,V⟩;simp only at j;rwa[show 48+(x.toNat-48)=x.toNat from V,xv]at j
 have W:pk xs a=45\/vS (pk xs a)=true:=by
  rcases l with⟨d,_⟩|⟨d,_⟩;·exact .inl d
  ·right;rw[d];exact H
 have a2:vG xs a=(9,n,[],a+(zZ n).length,0):=by unfold vG;rw[a1,rB bH,rB N,rG W,S,D,R]
 unfold sH;rw[GG a0 C,rB V,a2];simp
def FA{xs:afs}{a:Nat}{r s:afs}(k v:Int)(h:xs.drop a=s++r)(z:Ea r)(l:s=[116,114,117,101]/\k=7/\v=1\/s=[102,97,108,115,101]/\k=7/\v=0\/s=[110,117,108,108]/\k=8/\v=0):sH xs a=.ok ⟨k,v,[],a,a+s.length⟩:=by
 have B:=Ea.pk z (AE h);have g:zN xs a=(k,v,a+s.length):=by unfold zN Lib.hasPrefix;rw[h];rcases l with⟨rfl,rfl,rfl⟩|⟨rfl,rfl,rfl⟩|⟨rfl,rfl,rfl⟩<;>simp[List.isPrefixOf]
 have o:Jx xs a=0:=by
  unfold Jx;rw[g];simp only;rw[B.1,rB];rintro(e|e);·omega
  ·cases e
 obtain⟨c,m,p,x,q,j⟩:∃c m,s=c::m/\xo c=false/\Lib.indexByte xI c= -1/\¬c=34/\¬(c=45\/vS c=true):=by rcases l with⟨rfl,_,_⟩|⟨rfl,_,_⟩|⟨rfl,_,_⟩;all_goals exact⟨_,_,rfl,bH,bF,bH,bH⟩
 have d:=h;rw[p,si]at d;have y:=xq d;have C:vG xs a=(k,v,[],a+s.length,0):=by unfold vG;rw[y.1,q,rB bH,rB j.1,rB j.2,g,o]
 unfold sH;rw[GG d x,rB V,C];simp
