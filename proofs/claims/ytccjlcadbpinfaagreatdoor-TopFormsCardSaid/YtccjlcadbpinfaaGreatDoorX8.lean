import Derived.Test.YtccjlcadbpinfaaGreatDoorX6
set_option linter.all false
set_option maxRecDepth 100000
namespace Go.Proofs.YtccjlcadbpinfaaGreatDoor.Tp
open ChangeShapes WideShapes ChangeAt RowKit
open Num Mem Can
structure Row(w:World)(X:acO)(k:Nat)(A:acN)(n:Nat)(css:List (List Value)):Prop where
 len:css.length=n
 pos:0<n->∃g p,A=some ⟨g,p,none⟩/\X g/\∀i cs,css[i]? =some cs->cs.length=k/\∀j u,cs[j]? =some u->w.cell? ⟨g,p+(i*k+j),none⟩=some u
def Row.nil(w:World)(X:acO)(k:Nat)(A:acN):Row w X k A 0 []:=⟨rfl,fun h=>absurd h V⟩
def Row.keep{w w':World}{X Y:acO}{k:Nat}{A:acN}{n:Nat}{css:List (List Value)}(h:Row w X k A n css)(v:∀q:Addr,X q.block->w'.cell? q=w.cell? q)(t:∀b,X b->Y b):Row w' Y k A n css:=⟨h.len,fun x=>by obtain⟨g,p,r,m,d⟩:=h.pos x;exact⟨g,p,r,t g m,fun i cs o=>⟨(d i cs o).1,fun j u y=>by rw[v _ m];exact(d i cs o).2 j u y⟩⟩⟩
def Row.wK{w:World}{q:Nat}{e:TypeId}{k:Nat}{A:acN}{n c:Nat}{css:List (List Value)}(h:w.ownsRow q e k (.slice A n c) n css.flatten)(m:∀cs∈css,cs.length=k)(B:0<k):Row w (fun b=>q<=b/\b<w.heap.size/\some b=A.map (·.block)) k A n css:=by
 have C:css.length=n:=by
  have o:=h.1;have x:css.flatten.length=css.length*k:=by
   clear h o;induction css with
   |nil=>simp
   |cons a l p=>rw[tJ,rC,m a bi,p (fun cs hc=>m cs kQ),rM,AP];omega
  rw[x]at o;exact Nat.eq_of_mul_eq_mul_right B o
 refine⟨C,fun E=> ?_⟩;obtain⟨g,cap,hv,hb,D⟩:=World.ownsRow.form h E;have y:A=some ⟨g,0,none⟩:=ie;subst y;refine⟨g,0,rfl,⟨hb,D,rfl⟩,fun i cs d=>⟨m cs (rL d),fun j u v=> ?_⟩⟩;have key:∀(l:List (List Value))(i:Nat),(∀cs∈l,cs.length=k)->l[i]? =some cs->l.flatten[i*k+j]? =some u:=by
  intro l;induction l with
  |nil=>intro i _ h;simp at h
  |cons a l p=>
   intro i t d;rw[tJ];cases i with
   |zero=>simp at d;subst d;have z:j<a.length:=(rK.1 v).1;rw[wX,sY,DJ z];exact v
   |succ i=>have r:=t a bi;rw[yN (by rw[r,AP];omega)];rw[show(i+1)*k+j-a.length=i*k+j by rw[r,AP];omega];exact p i (fun cs hc=>t cs kQ) (by simpa using d)
 have:=World.ownsRow.cells (g:=g) h rfl (i*k+j) u (key css i m d);rw[xO]at this;exact this
inductive J where|mk (kind int:Int) (text:acM) (items:List J) (keys:List acM)
def J.kind:J->Int| .mk k _ _ _ _=>k
def J.int:J->Int| .mk _ i _ _ _=>i
def J.text:J->acM| .mk _ _ t _ _=>t
def J.items:J->List J| .mk _ _ _ l _=>l
def J.keys:J->List acM| .mk _ _ _ _ l=>l
def J.zero:J:=.mk 0 0 [] [] []
def sv(t:acM):Value:=.string ⟨t.toArray⟩
def uF(l:List acM):List (List Value):=l.map fun t=>[sv t]
inductive uf(w:World)(X:acO):List Value->J->Prop
 |mk {kind int:Int} {text:acM} {A A':acN} {n c n' c':Nat} {items:List J} {keys:List acM} {css:List (List Value)} (hr:Row w X 5 A n css) (hl:css.length=items.length) (hi:∀(i:Nat)(h:i<css.length)(h':i<items.length),uf w X css[i] items[i]) (hk:Row w X 1 A' n' (uF keys)) (hn:n<=c) (hn':n'<=c') (hc:n<=100000000) (hc':n'<=100000000):uf w X [.int .i64 kind,.int .i64 int,.string ⟨text.toArray⟩,.slice A n c,.slice A' n' c'] (.mk kind int text items keys)
def uf.keep{w w':World}{X Y:acO}{cs:List Value}{j:J}(h:uf w X cs j)(g:∀q:Addr,X q.block->w'.cell? q=w.cell? q)(d:∀b,X b->Y b):uf w' Y cs j:=by
 induction h with
 |mk hr hl _ RF hn hn' hc hc' ih=>exact .mk (hr.keep g d) hl (fun i h m=>ih i h m) (RF.keep g d) hn hn' hc hc'
def uf.stay{w w':World}{B:Nat}{X:acO}{cs:List Value}{j:J}(h:uf w X cs j)(hb:Below B w w')(d:∀b,X b->b<B):uf w' X cs j:=h.keep (fun _ g=>hb.cell (d _ g)) (fun _ h=>h)
def uf.wL{w w':World}{g B:Nat}{X:acO}{cs:List Value}{j:J}(h:uf w X cs j)(hb:rS g B w w')(d:∀b,X b->b<B/\b≠g):uf w' X cs j:=h.keep (fun _ i=>hb.cell (d _ i).1 (d _ i).2) (fun _ h=>h)
def uf.len{w:World}{X:acO}{cs:List Value}{j:J}(h:uf w X cs j):cs.length=5:=by cases h;rfl
def uf.zero(w:World)(X:acO):uf w X [.int .i64 0,.int .i64 0,.string ⟨#[]⟩,.slice none 0 0,.slice none 0 0] J.zero:=.mk (Row.nil w X 5 none) rfl (fun i h=>absurd h bi) (Row.nil w X 1 none) rT rT V V
end Go.Proofs.YtccjlcadbpinfaaGreatDoor.Tp
namespace Go.Proofs.YtccjlcadbpinfaaGreatDoor.Tp
open Num Mem Can
def wR(c:UInt8):Bool:=c==32||c==9||c==10||c==13
def vH(xs:acM)(a:Nat):Nat:=a+((xs.drop a).takeWhile wR).length
structure Wd where
 kind:Int
 int:Int
 text:acM
 at_:Nat
 next:Nat
def uT(xs:acM)(b:Nat):Int×Int×acM×Nat×Int:=if 0<=Lib.indexByte xl (pk xs b)then(1+Lib.indexByte xl (pk xs b),0,[],b+1,0)else if pk xs b=34 then(10,0,(Dg xs (xs.length+1-(b+1)) (b+1) []).1,(Dg xs (xs.length+1-(b+1)) (b+1) []).2.1,(Dg xs (xs.length+1-(b+1)) (b+1) []).2.2)else if pk xs b=45\/vr (pk xs b)=true then(9,QU xs b,[],EL xs b,U8 xs b)else((yL xs b).1,(yL xs b).2.1,[],(yL xs b).2.2,IZ xs b)
def se(xs:acM)(a:Nat):Except Int Wd:=if vH xs a=xs.length then .ok ⟨11,0,[],xs.length,xs.length⟩else if(uT xs (vH xs a)).2.2.2.2=0 then .ok ⟨(uT xs (vH xs a)).1,(uT xs (vH xs a)).2.1,(uT xs (vH xs a)).2.2.1,vH xs a,(uT xs (vH xs a)).2.2.2.1⟩else .error (uT xs (vH xs a)).2.2.2.2
mutual
def vB(xs:acM):Nat->Wd->Nat->Option (Except Int (J×Nat))
 |0,_,_=>none
 |f+1,w,b=>if w.kind=8 then some (.ok (.mk 1 0 [] [] [],w.next))else if w.kind=7 then some (.ok (.mk 2 w.int [] [] [],w.next))else if w.kind=9 then some (.ok (.mk 3 w.int [] [] [],w.next))else if w.kind=10 then some (.ok (.mk 4 0 w.text [] [],w.next))else if w.kind=3 then(if b=32 then some (.error 21)else Dn xs f w.next (b+1))else if w.kind=1 then(if b=32 then some (.error 21)else Io xs f w.next (b+1))else some (.error 20)
def Dn(xs:acM):Nat->Nat->Nat->Option (Except Int (J×Nat))
 |0,_,_=>none
 |f+1,a,b=>
 match se xs a with
 | .error e=>some (.error e)
 | .ok w=>if w.kind=4 then some (.ok (.mk 5 0 [] [] [],w.next))else AT xs f w b []
def AT(xs:acM):Nat->Wd->Nat->List J->Option (Except Int (J×Nat))
 |0,_,_,_=>none
 |f+1,w,d,l=>
 match vB xs f w d with
 |none=>none
 |some (.error e)=>some (.error e)
 |some (.ok (j,a))=>
  match se xs a with
  | .error e=>some (.error e)
  | .ok b=>if b.kind=4 then some (.ok (.mk 5 0 [] (l++[j]) [],b.next))else if b.kind=6 then(match se xs b.next with| .error e=>some (.error e)| .ok g=>AT xs f g d (l++[j]))else some (.error 20)
def Io(xs:acM):Nat->Nat->Nat->Option (Except Int (J×Nat))
 |0,_,_=>none
 |f+1,a,b=>
 match se xs a with
 | .error e=>some (.error e)
 | .ok w=>if w.kind=2 then some (.ok (.mk 6 0 [] [] [],w.next))else yp xs f w b [] []
def yp(xs:acM):Nat->Wd->Nat->List J->List acM->Option (Except Int (J×Nat))
 |0,_,_,_,_=>none
 |f+1,w,d,l,ks=>
 if w.kind≠10 then some (.error 20)else if ks.contains w.text=true then some (.error 23)else match se xs w.next with
 | .error e=>some (.error e)
 | .ok wc=>
  if wc.kind≠5 then some (.error 20)else match se xs wc.next with
  | .error e=>some (.error e)
  | .ok h=>
   match vB xs f h d with
   |none=>none
   |some (.error e)=>some (.error e)
   |some (.ok (j,a))=>
    match se xs a with
    | .error e=>some (.error e)
    | .ok b=>if b.kind=2 then some (.ok (.mk 6 0 [] (l++[j]) (ks++[w.text]),b.next))else if b.kind=6 then(match se xs b.next with| .error e=>some (.error e)| .ok g=>yp xs f g d (l++[j]) (ks++[w.text]))else some (.error 20)
end
def Aj(xs:acM)(f:Nat):Option (Except Int J):=if 20000<xs.length then some (.error 3)else match se xs 0 with
 | .error e=>some (.error e)
 | .ok w=>match vB xs f w 0 with
  |none=>none
  |some (.error e)=>some (.error e)
  |some (.ok (j,a))=>match se xs a with
   | .error e=>some (.error e)
   | .ok b=>if b.kind=11 then some (.ok j)else some (.error 20)
end Go.Proofs.YtccjlcadbpinfaaGreatDoor.Tp
namespace Go.Proofs.YtccjlcadbpinfaaGreatDoor.Tp
open ChangeShapes WideShapes ChangeAt RowKit
open Num Mem Can
structure Way{α:Type}(Is:World->(Nat->Prop)->List Value->α->Prop)(k:Nat):Prop where
 keep:∀{w w':World}{X Y:acO}{cs:List Value}{a:α},Is w X cs a->(∀q:Addr,X q.block->w'.cell? q=w.cell? q)->(∀b,X b->Y b)->Is w' Y cs a
 len:∀{w:World}{X:acO}{cs:List Value}{a:α},Is w X cs a->cs.length=k
 one:∀{w:World}{X:acO}{cs:List Value}{a:α},Is w X cs a->∀u∈cs,u.oneCell'=true
def uY{α:Type}(Is:World->(Nat->Prop)->List Value->α->Prop)(e:TypeId)(k:Nat)(S N:acO)(w:World)(H:Nat)(A:acN)(n c:Nat)(l:List α):Prop:=∃css:List (List Value),w.ownsRow H e k (.slice A n c) n css.flatten/\(∀cs∈css,cs.length=k)/\css.length=l.length/\(∀b,A.map (·.block)=some b->¬N b)/\∀(i:Nat)(h:i<css.length)(d:i<l.length),Is w (fun b=>(S b\/H<=b)/\b<w.heap.size/\A.map (·.block)≠some b/\¬N b) css[i] l[i]
def KD(A:acN)(w w':World):Prop:=w.heap.size<=w'.heap.size/\∀b,b<w.heap.size->A.map (·.block)≠some b->w'.heap[b]? =w.heap[b]?
section
variable{α:Type}{Is:World->(Nat->Prop)->List Value->α->Prop}{e:TypeId}{k:Nat}{S N N':acO}{w w':World}{H n c:Nat}{A:acN}{l:List α}
def uY.nil(Is:World->(Nat->Prop)->List Value->α->Prop)(e:TypeId)(k:Nat)(S N:acO)(w:World)(H:Nat):uY Is e k S N w H none 0 0 []:=⟨[],uu w H e k,bi,rfl,fun b h=>fW,fun i h=>absurd h bi⟩
def uY.len(h:uY Is e k S N w H A n c l)(i:0<k):l.length=n:=by obtain⟨css,b,d,g,_⟩:=h;rw[<-g];exact(Row.wK b d i).len
def uY.cap(h:uY Is e k S N w H A n c l):n<=c:=by
 obtain⟨css,b,m,o,_⟩:=h;rcases b.2 with⟨d,j⟩|⟨g,cap,i,d,hb,p,b,_⟩;·omega
 ·injection d with _ _ hc;omega
def uY.block(h:uY Is e k S N w H A n c l):∀b,A.map (·.block)=some b->H<=b/\b<w.heap.size/\¬N b:=by
 obtain⟨css,g,m,o,i,_⟩:=h;intro b hb;have j:=i b hb;cases A with
 |none=>simp at hb
 |some d=>simp only[uj,sb]at hb;subst hb;have:=World.ownsRow.lt g d.block rfl;exact⟨this.1,this.2,j⟩
def uY.SZ(C:Way Is k)(h:uY Is e k S N w H A n c l)(L:w.heap.size<=w'.heap.size)(hb:∀b,(S b\/H<=b)->b<w.heap.size->¬N b->w'.heap[b]? =w.heap[b]?)(r:∀b,b<w.heap.size->N' b->N b):uY Is e k S N' w' H A n c l:=by
 have d:=h.block;obtain⟨css,p,x,y,K,z⟩:=h;refine⟨css,?_,x,y,fun b t=>fun m=>(d b t).2.2 (r b (d b t).2.1 m),fun i F G=> ?_⟩
 ·refine⟨p.1,?_⟩;rcases p.2 with h|⟨g,cap,v,hv,D,E,I⟩;·exact .inl h
  ·have B:A=some ⟨g,0,none⟩:=ie;have j:=d g (by rw[B];rfl);exact .inr ⟨g,cap,v,hv,D,(hb g (.inr j.1) j.2.1 j.2.2).trans E,I⟩
 ·exact C.keep (z i F G) (fun q o=>rD (w:=w) (hb q.block o.1 o.2.1 o.2.2.2)) (fun b hb=>⟨hb.1,V,hb.2.2.1,fun m=>hb.2.2.2 (r b hb.2.1 m)⟩)
def uY.grown(d:Way Is k)(h:uY Is e k S N w H A n c l)(g:w.heap.size<=w'.heap.size)(hb:∀b,(S b\/H<=b)->b<w.heap.size->¬N b->w'.heap[b]? =w.heap[b]?):uY Is e k S N w' H A n c l:=h.SZ d g hb fun _ _ h=>h
def uY.off(j:Way Is k)(h:uY Is e k S N w H A n c l){g:Nat}(d:rS g w.heap.size w w')(o:g<H)(i:¬S g):uY Is e k S N w' H A n c l:=h.grown j d.size fun b hb m _=>d.block b m (by rintro rfl;rcases hb with h|h;exact i h;omega)
def uY.below(g:Way Is k)(h:uY Is e k S N w H A n c l)(d:acP w w'):uY Is e k S N w' H A n c l:=h.grown g d.size fun b _ i _=>d.block b i
def uY.setAt(d:Way Is k)(h:uY Is e k S N w H A n c l){g:Nat}(j:g<H)(b:¬S g)(i:Nat)(u:Value):uY Is e k S N (w.setCell ⟨g,i,none⟩ u) H A n c l:=h.off d ((rS.refl g _ w).setAt i u) j b
def uY.El(m:Way Is k){A' d:acN}(h:uY Is e k S (fun b=>A'.map (·.block)=some b) w H A n c l)(g:KD A' w w')(j:d.map (·.block)=A'.map (·.block)\/d.map (·.block)=some w.heap.size):uY Is e k S (fun b=>d.map (·.block)=some b) w' H A n c l:=h.SZ m g.1 (fun b _ i o=>g.2 b i o) fun b i hb=>
 by
  rcases j with h|h;·exact h▸hb
  ·rw[h]at hb;injection hb with hb;omega
def uY.row(o:Way Is k)(h:uY Is e k S N w H A n c l)(r:0<k):∃css,Row w (fun b=>(S b\/H<=b)/\b<w.heap.size) k A n css/\css.length=l.length/\∀(i:Nat)(h:i<css.length)(t:i<l.length),Is w (fun b=>(S b\/H<=b)/\b<w.heap.size) css[i] l[i]:=by obtain⟨css,d,g,j,_,m⟩:=h;exact⟨css,(Row.wK d g r).keep (fun _ _=>rfl) (fun b hb=>⟨.inr hb.1,hb.2.1⟩),j,fun i p q=>o.keep (m i p q) (fun _ _=>rfl) (fun b hb=>⟨hb.1,hb.2.1⟩)⟩
end
section
variable{P:Program}{α:Type}{Is:World->(Nat->Prop)->List Value->α->Prop}{e:TypeId}{k:Nat}{S N:acO}{w:World}{H n c:Nat}{A:acN}{l:List α}
def Me(hW:Way Is k){t ty:TypeId}{i:TypeInfo}{z:Value}{bytes:Nat}(Y:P.underlying t=some (.slice e))(R:P.info? e=some i)(Z:i.zero=some z)(X:i.size=k)(M:i.bytes=bytes)(a0:z.cells.size=k)(T:0<k)(hb:bytes<=1000)(h:uY Is e k S N w H A n c l){H1:Nat}{x:α}{cs:List Value}(hx:Is w (fun b=>(S b\/H1<=b)/\b<w.heap.size) cs x)(a3:H<=H1)(I:∀b,A.map (·.block)=some b->b<H1)(K:∀b,S b->b<H)(r:∀b,N b->b<H1/\b<w.heap.size/\¬S b){q:Nat}{cap:Nat}(hq:∀j u,cs[j]? =some u->w.cell? ⟨q,j,none⟩=some u)(o:n<=100000000)(v:H<=w.heap.size):∃g c2 w',(Builtin.append_ #[t,t] ty #[.slice A n c,.slice (some ⟨q,0,none⟩) 1 cap]).run P w=.ok (.slice g (n+1) c2) w'/\uY Is e k S N w' H g (n+1) c2 (l++[x])/\Below H w w'/\KD A w w'/\(g.map (·.block)=A.map (·.block)\/g.map (·.block)=some w.heap.size):=by
 have VA:=h.block;obtain⟨css,E,h2,F,G,h4⟩:=h;obtain⟨a1,w',W,g2,p,a2,g5⟩:=uR (P:=P) w H t ty e i z k bytes Y R Z X M a0 T (.slice A n c) n css.flatten E ⟨q,0,none⟩ 1 cap cs (by rw[hW.len hx];omega) (fun j u hu=>eE) (hW.one hx) de dP v;have O:∃g c2,a1=.slice g (n+1) c2:=cG;obtain⟨g,c2,rfl⟩:=O;have KH:∀(B:acN)(m d:Nat),(Value.slice B m d).ownBlock=B.map (·.block):=fun B m d=>eq
 rw[KH,KH]at g5;have L:Below H w w':=vK.grown p v fun b hb=>jd
 have hold:∀b,b<w.heap.size->A.map (·.block)≠some b->w'.heap[b]? =w.heap[b]?:=fun b hb Fh=>p.block b hb (fun he=>Fh fE)
 refine⟨g,c2,w',W,⟨css++[cs],by rw[KU];simpa using g2,?_,by simp[F],?_,?_⟩,L,⟨p.size,hold⟩,g5⟩;·exact fG
 ·intro b hb o;rcases g5 with g5|g5;·rw[hb]at g5;exact G b g5.symm o
  ·rw[hb]at g5;injection g5 with g5;have:=(r b o).2.1;omega
 ·have hA2:∀b,b<w.heap.size->A.map (·.block)≠some b->g.map (·.block)≠some b:=fun b hb Fh he=>gv
  intro j y C;rw[rC]at y C;simp only[yi]at y C;have a4:=p.size;by_cases hlt:j<css.length;·exact mA
  ·have D:j=css.length:=V;subst D;have Fh:∀b,(S b\/H1<=b)/\b<w.heap.size->A.map (·.block)≠some b:=fun b hb he=>
    by
     rcases hb.1 with h|h;·have:=K b h;have:=(VA b he).1;omega
     ·have:=I b he;omega
   have U:∀b,(S b\/H1<=b)/\b<w.heap.size->¬N b:=fun b hb o=>
    by
     rcases hb.1 with h|h;·exact(r b o).2.2 h
     ·have:=(r b o).1;omega
   rw[tO rT,tO V];simp only[Gl,List.getElem_singleton];exact hW.keep hx (fun q hq=>rD (w:=w) (hold q.block hq.2 (Fh _ hq))) (fun b hb=>⟨hb.1.imp id V,V,hA2 b hb.2 (Fh b hb),U b hb⟩)
end
def nS(_:Nat):Prop:=False
def uG:Way uf 5:=⟨fun h d b=>h.keep d b,fun h=>h.len,fun h=>jz⟩
def MF(_:World)(_:acO)(cs:List Value)(t:acM):Prop:=cs=[sv t]
def ui:Way MF 1:=⟨fun h _ _=>h,fun h=>by rw[h];rfl,fun h=>by rw[h];simp[sv,Value.oneCell']⟩
def yt:(Tryz.prog.info? 60).map (fun i=>(i.zero,i.size,i.bytes))=some (some (jA 0 0 ⟨#[]⟩ none 0 0 none 0 0),5,80):=bg
def yu:(Tryz.prog.info? 9).map (fun i=>(i.zero,i.size,i.bytes))=some (some (.string ⟨#[]⟩),1,16):=bg
section
variable{ops:Array Oper}{Q:Exit->Act->World->Prop}{rest:List Oper}{a:Act}{w:World}
def tX{t ty:TypeId}{α:Type}{Is:World->(Nat->Prop)->List Value->α->Prop}{e:TypeId}{k:Nat}{S N:acO}{H n c:Nat}{A:acN}{l:List α}{d:Option Tmp}{s x:Operand}{p:String}{m:Array Edge}{o:Option (Nat×Bool)}(M:Region.wanted ⟨d,.call {callee:=.builtin .append,args:= #[s,x],argTypes:= #[t,t]},ty,p,m,o⟩ (yielded ops a.tmps)=true){z:Value}{bytes:Nat}(L:Tryz.prog.underlying t=some (.slice e))(g:(Tryz.prog.info? e).map (fun i=>(i.zero,i.size,i.bytes))=some (some z,k,bytes))(W:z.cells.size=k)(F:0<k)(hb:bytes<=1000)(D:Way Is k)(hs:a.eval s=.slice A n c){q cap:Nat}(hx:a.eval x=.slice (some ⟨q,0,none⟩) 1 cap)(h:uY Is e k S N w H A n c l){H1:Nat}{y:α}{cs:List Value}(O:Is w (fun b=>(S b\/H1<=b)/\b<w.heap.size) cs y)(v:H<=H1)(r:∀b,A.map (·.block)=some b->b<H1)(C:∀b,S b->b<H)(B:∀b,N b->b<H1/\b<w.heap.size/\¬S b)(I:∀j u,cs[j]? =some u->w.cell? ⟨q,j,none⟩=some u)(G:n<=100000000)(E:H<=w.heap.size)(hh:∀A2 c2 w',uY Is e k S N w' H A2 (n+1) c2 (l++[y])->Below H w w'->KD A w w'->(A2.map (·.block)=A.map (·.block)\/A2.map (·.block)=some w.heap.size)->wpList Tryz.prog ops Q rest (a.put d (.slice A2 (n+1) c2)) w'):wpList Tryz.prog ops Q (⟨d,.call {callee:=.builtin .append,args:= #[s,x],argTypes:= #[t,t]},ty,p,m,o⟩::rest) a w:=by
 obtain⟨X,g,R,T,U⟩:=xj g;refine tj M fun K hK=> ?_
 obtain⟨A2,c2,w',Il,h2,h3,h4,h5⟩:=Me (P:=Tryz.prog) (ty:=ty) D L g R T U W F hb h O v r C B (cap:=cap) I G E;exact ck
end
def DN(ks:List acM):List ByteArray:=ks.map fun k=>⟨k.toArray⟩
def F0{w:World}{X:acO}{A:acN}{n:Nat}{ks:List acM}(h:Row w X 1 A n (uF ks))(q:0<n):∃b off,A=some ⟨b,off,none⟩/\∀j,j<(DN ks).length->w.cell? ⟨b,off+j,none⟩=some (.string ((DN ks).getD j ByteArray.empty)):=by
 obtain⟨g,p,i,_,m⟩:=h.pos q;refine⟨g,p,i,fun j o=> ?_⟩;have d:j<ks.length:=by simpa[DN]using o
 have:=(m j [sv ks[j]] (by simp[uF,d])).2 0 (sv ks[j]) rfl;rw[tv,si]at this;rw[this];simp[DN,sv,d]
def Vp{ks:List acM}{k:acM}:(⟨k.toArray⟩:ByteArray)∈DN ks↔k∈ks:=by
 unfold DN;rw[sR];constructor
 ·rintro⟨a,b,h⟩;injection h with h;have:a=k:=by simpa using vy Array.toList h
  exact this▸b
 ·exact fun h=>⟨k,h,rfl⟩
def yc{X:acO}{A:acN}{n c:Nat}{ks:List acM}(k:acM)(w:World)(h:Row w X 1 A n (uF ks))(i:n<=1000000000):Calls Tryz.prog 128 #[.slice A n c,.string ⟨k.toArray⟩] w fun e w'=>e=.returned (.bool (ks.contains k))/\w=w':=by
 have hl:ks.length=n:=nP;by_cases d:n=0;·subst d;have:ks=[]:=rI hl;subst this;exact(Tryz.slices_Contains_string_empty A c ⟨k.toArray⟩ w).mono fun _ _ h=>⟨h.1,h.2.symm⟩
 ·obtain⟨b,off,rfl,g⟩:=F0 h V;refine(Tryz.slices_Contains_string b off n c (DN ks) ⟨k.toArray⟩ w iV V g).mono fun _ _ h=>⟨?_,h.2.symm⟩
  rw[h.1];congr 2;rw[xQ iV,zR,Lib.containsS_iff,Vp,yf]
structure xm(A:acN)(w:World)(A':acN)(w':World):Prop where
 size:w.heap.size<=w'.heap.size
 block:∀b,b<w.heap.size->A.map (·.block)≠some b->w'.heap[b]? =w.heap[b]?
 zw:A'.map (·.block)=A.map (·.block)\/∃b,A'.map (·.block)=some b/\w.heap.size<=b
def xm.refl(A:acN)(w:World):xm A w A w:=⟨rN _,fun _ _ _=>rfl,.inl rfl⟩
def xm.ne{A A':acN}{w w':World}(h:xm A w A' w'){b:Nat}(hb:b<w.heap.size)(g:A.map (·.block)≠some b):A'.map (·.block)≠some b:=fun d=>
 by
  rcases h.zw with h|⟨c,h,i⟩;·exact g (h▸d)
  ·rw[h]at d;injection d with d;omega
def xm.trans{A g i:acN}{w w1 m:World}(h:xm A w g w1)(k:xm g w1 i m):xm A w i m:=⟨sG h.size k.size,fun p d j=>(k.block p (sj d h.size) (h.ne d j)).trans (h.block p d j),by
 have:=h.size;rcases k.zw with e|⟨b,e,hb⟩
 ·rcases h.zw with e'|⟨b,e',hb⟩;·exact .inl (e.trans e')
  ·exact .inr ⟨b,e.trans e',hb⟩
 ·exact .inr ⟨b,e,V⟩⟩
def xm.of{A:acN}{w w':World}(h:acP w w'):xm A w A w':=⟨h.size,fun b hb _=>h.block b hb,.inl rfl⟩
def xm.al(A:acN)(w:World)(x:Obj):xm A w A (w.alloc x):=xm.of (vK.alloc rT x)
def xm.sV{A b:acN}{w w1 d:World}(h:xm A w b w1)(k:acP w1 d):xm A w b d:=h.trans (xm.of k)
def xm.cell{A b:acN}{w w1:World}(h:xm A w b w1){p:Addr}(g:p.block<w.heap.size)(d:A.map (·.block)≠some p.block):w1.cell? p=w.cell? p:=rD (w:=w) (h.block _ g d)
def xm.frozen{A b:acN}{w w1:World}(h:xm A w b w1){p:Addr}(g:p.block<w.heap.size)(d:A.map (·.block)≠some p.block):w1.frozen? p=w.frozen? p:=by simp[World.frozen?,h.block _ g d]
def Rb{w:World}{o n c m d B:Nat}{A A':acN}{xs q:acM}(ty:TypeId)(D2:Mem.Own w o A n c xs)(hr:Rd w B A' m q)(R:n+m<=140737488355328)(Dm:o<=w.heap.size):∃i c2 w',(Builtin.append_ #[22,22] ty #[.slice A n c,.slice A' m d]).run Tryz.prog w=.ok (.slice i (n+m) c2) w'/\Mem.Own w' o i (n+m) c2 (xs++q)/\Below o w w'/\xm A w i w':=by
 obtain⟨K,t,G,v,I⟩:=xj zU;by_cases z:m=0;·subst z;have F:q=[]:=rI hr.1;subst F;exact⟨A,c,w,BW sZ t v D2 ty A' d,by simpa using D2,Below.refl _ _,xm.refl _ _⟩
 ·obtain⟨g,p,rfl,O,hc⟩:=hr.2 V;obtain⟨L,w',E,h2,h3,M,r⟩:=uR (P:=Tryz.prog) w o 22 ty 5 K (.int .u8 0) 1 1 sZ t G v I rfl bD (.slice A n c) n (cells xs) D2 ⟨g,p,none⟩ m d (cells q) jH cV (EC q) de V Dm;have y:∃i c2,L=.slice i (n+m) c2:=cH;obtain⟨i,c2,rfl⟩:=y;have KH:∀(B:acN)(m d:Nat),(Value.slice B m d).ownBlock=B.map (·.block):=fun B m d=>eq
  rw[KH,KH]at r;have D:∀b,b<w.heap.size->A.map (·.block)≠some b->w'.heap[b]? =w.heap[b]?:=fun b hb C=>h3.block b hb (fun he=>C fE)
  refine⟨i,c2,w',E,by unfold Mem.Own;exact kN,?_,⟨h3.size,D,r.imp id (fun h=>⟨_,h,rN _⟩)⟩⟩;exact bQ
section
variable{ops:Array Oper}{rest:List Oper}{a:Act}{w:World}{Q:Exit->Act->World->Prop}
def sS{g:Option Tmp}{s x:Operand}{ty:TypeId}{o:String}{i:Array Edge}{j:Option (Nat×Bool)}(y:Region.wanted ⟨g,.call {callee:=.builtin .append,args:= #[s,x],argTypes:= #[22,22]},ty,o,i,j⟩ (yielded ops a.tmps)=true){b n c m d B:Nat}{A A':acN}{xs p:acM}(hs:a.eval s=.slice A n c)(r:Mem.Own w b A n c xs)(hx:a.eval x=.slice A' m d)(t:Rd w B A' m p)(v:n+m<=140737488355328)(q:b<=w.heap.size)(h:∀A2 c2 w',Mem.Own w' b A2 (n+m) c2 (xs++p)->Below b w w'->xm A w A2 w'->wpList Tryz.prog ops Q rest (a.put g (.slice A2 (n+m) c2)) w'):wpList Tryz.prog ops Q (⟨g,.call {callee:=.builtin .append,args:= #[s,x],argTypes:= #[22,22]},ty,o,i,j⟩::rest) a w:=by
 refine tj y fun K hK=> ?_
 obtain⟨A2,c2,w',Il,h2,h3,h4⟩:=Rb (w:=w) ty r t v q (d:=d);exact cu
end
def CI(c:UInt8):acM:=if 0<=Lib.indexByte tF c/\c≠47 then [92,Cz.getD (Lib.indexByte tF c).toNat 0]else if c.toNat<32 then [92,117,48,48,BN.getD (c.toNat/16) 0,BN.getD (c.toNat%16) 0]else [c]
def sU(s:acM):acM:=34::(s.flatMap CI++[34])
def Wi(c:UInt8):(CI c).length<=6:=by
 unfold CI;split;·simp
 ·split<;>simp
def GR(s:acM):(s.flatMap CI).length<=6*s.length:=by
 induction s with
 |nil=>simp
 |cons c r b=>rw[AO,rC,rM];have:=Wi c;omega
def Ma(c:UInt8):(∃k:Nat,Lib.indexByte tF c=k/\c≠47/\(k=0\/k=1\/k=3\/k=4\/k=5\/k=6\/k=7)/\CI c=[92,Cz.getD k 0])\/(Lib.indexByte tF c= -1/\c.toNat<32/\CI c=[92,117,48,48,BN.getD (c.toNat/16) 0,BN.getD (c.toNat%16) 0])\/(Lib.indexByte tF c= -1/\32<=c.toNat/\CI c=[c])\/(Lib.indexByte tF c=2/\c=47/\CI c=[c]):=by
 have key:∀k:Fin 256,(Lib.indexByte tF (UInt8.ofNat k.val)=((Lib.indexByte tF (UInt8.ofNat k.val)).toNat:Int)/\UInt8.ofNat k.val≠47/\((Lib.indexByte tF (UInt8.ofNat k.val)).toNat=0\/(Lib.indexByte tF (UInt8.ofNat k.val)).toNat=1\/(Lib.indexByte tF (UInt8.ofNat k.val)).toNat=3\/(Lib.indexByte tF (UInt8.ofNat k.val)).toNat=4\/(Lib.indexByte tF (UInt8.ofNat k.val)).toNat=5\/(Lib.indexByte tF (UInt8.ofNat k.val)).toNat=6\/(Lib.indexByte tF (UInt8.ofNat k.val)).toNat=7)/\CI (UInt8.ofNat k.val)=[92,Cz.getD (Lib.indexByte tF (UInt8.ofNat k.val)).toNat 0])\/(Lib.indexByte tF (UInt8.ofNat k.val)= -1/\(UInt8.ofNat k.val).toNat<32/\CI (UInt8.ofNat k.val)=[92,117,48,48,BN.getD ((UInt8.ofNat k.val).toNat/16) 0,BN.getD ((UInt8.ofNat k.val).toNat%16) 0])\/(Lib.indexByte tF (UInt8.ofNat k.val)= -1/\32<=(UInt8.ofNat k.val).toNat/\CI (UInt8.ofNat k.val)=[UInt8.ofNat k.val])\/(Lib.indexByte tF (UInt8.ofNat k.val)=2/\UInt8.ofNat k.val=47/\CI (UInt8.ofNat k.val)=[UInt8.ofNat k.val]):=bC;have h:=key ⟨c.toNat,c.toNat_lt⟩;simp only[w0]at h;rcases h with⟨b,d,g,i⟩|h|h|h;·exact .inl ⟨_,b,d,g,i⟩
 ·exact .inr (.inl h)
 ·exact .inr (.inr (.inl h))
 ·exact .inr (.inr (.inr h))
def XO(k:Nat)(b:k<32)(w:World):(Instr.index 9 (.string ⟨#[48,49,50,51,52,53,54,55,56,57,97,98,99,100,101,102]⟩) (.int .u8 ((k:Int)/16))).run Tryz.prog w=.ok (.int .u8 ((BN.getD (k/16) 0).toNat:Int)) w:=l6
def XQ(k:Nat)(b:k<32)(w:World):(Instr.index 9 (.string ⟨#[48,49,50,51,52,53,54,55,56,57,97,98,99,100,101,102]⟩) (.int .u8 (Go.bits BinOp.and IntKind.u8 (k:Int) 15))).run Tryz.prog w=.ok (.int .u8 ((BN.getD (k%16) 0).toNat:Int)) w:=l6
