import Derived.Test.YtccjlcadbpinfaaGreatDoorX14
set_option linter.all false
set_option maxRecDepth 100000
set_option maxHeartbeats 16000000
namespace Go.Proofs.YtccjlcadbpinfaaGreatDoor.Tp
open ChangeShapes WideShapes ChangeAt RowKit
open Num Mem Can
section
variable{P:Program}{w w':World}{H k n c:Nat}{e t ty:TypeId}
def Fr(w:World)(g:Nat)(own:Nat->Option Nat)(b:Nat):Prop:=b<w.heap.size/\b≠g/\∀k,own k≠some b
def Ia(w:World)(g:Nat)(own:Nat->Option Nat)(L:acO)(b:Nat):Prop:=Fr w g own b/\¬L b
def vb{A:acN}{m c:Nat}{xs:List Value}(h:w.ownsRow H e k (.slice A m c) n xs)(hb:∀b,A.map (·.block)=some b->w'.heap[b]? =w.heap[b]?):w'.ownsRow H e k (.slice A m c) n xs:=by
 refine⟨h.1,?_⟩;rcases h.2 with h|⟨g,cap,a,hv,j,l,o⟩;·exact .inl h
 ·have d:A=some ⟨g,0,none⟩:=ie;exact .inr ⟨g,cap,a,hv,j,(hb g (by rw[d];rfl)).trans l,o⟩
def zp{A:acN}{c:Nat}{xs:List Value}(h:w.ownsRow H e k (.slice A n c) n xs):n<=c:=dA
def uQ{A:acN}{c:Nat}{xs:List Value}(h:w.ownsRow H e k (.slice A n c) n xs){b:Nat}(hb:A.map (·.block)=some b):H<=b/\b<w.heap.size:=by
 refine World.ownsRow.lt h b ?_;cases A with
 |none=>simp at hb
 |some a=>simpa[Value.ownBlock]using hb
def Wb{i:TypeInfo}{z:Value}{bytes:Nat}(K:P.underlying t=some (.slice e))(y:P.info? e=some i)(M:i.zero=some z)(I:i.size=k)(r:i.bytes=bytes)(N:z.cells.size=k)(C:0<k)(hb:bytes<=1000){A:acN}{xs:List Value}(h:w.ownsRow H e k (.slice A n c) n xs){cs:List Value}(D:cs.length=k)(o:∀u∈cs,u.oneCell'=true){q cap:Nat}(hq:∀j u,cs[j]? =some u->w.cell? ⟨q,j,none⟩=some u)(R:n<=100000000)(p:H<=w.heap.size):∃A2 c2 w',(Builtin.append_ #[t,t] ty #[.slice A n c,.slice (some ⟨q,0,none⟩) 1 cap]).run P w=.ok (.slice A2 (n+1) c2) w'/\w'.ownsRow H e k (.slice A2 (n+1) c2) (n+1) (xs++cs)/\KD A w w'/\((A2.map (·.block)=A.map (·.block)\/A2.map (·.block)=some w.heap.size)/\(w'.os=w.os/\w'.output=w.output)):=by
 obtain⟨O,w',F,g2,a,Q,l⟩:=uR (P:=P) w H t ty e i z k bytes K y M I r N C (.slice A n c) n xs h ⟨q,0,none⟩ 1 cap cs (by rw[D];omega) (fun j u hu=>eE) o de dP p;have v:∃A2 c2,O=.slice A2 (n+1) c2:=cG;obtain⟨A2,c2,rfl⟩:=v;have KH:∀(B:acN)(m d:Nat),(Value.slice B m d).ownBlock=B.map (·.block):=fun B m d=>eq
 rw[KH,KH]at l;exact⟨A2,c2,w',F,g2,⟨a.size,fun b hb E=>a.block b hb (fun he=>E fE)⟩,l,a.os,a.output⟩
def CR{l:Array Oper}{m:Exit->Act->World->Prop}{v:List Oper}{a:Act}{w:World}{t ty e:TypeId}{H k n c:Nat}{A:acN}{xs cs:List Value}{b:Option Tmp}{s x:Operand}{r:String}{o:Array Edge}{p:Option (Nat×Bool)}(W:Region.wanted ⟨b,.call {callee:=.builtin .append,args:= #[s,x],argTypes:= #[t,t]},ty,r,o,p⟩ (yielded l a.tmps)=true){z:Value}{bytes:Nat}(U:Tryz.prog.underlying t=some (.slice e))(d:(Tryz.prog.info? e).map (fun i=>(i.zero,i.size,i.bytes))=some (some z,k,bytes))(a1:z.cells.size=k)(M:0<k)(hb:bytes<=1000)(T:a.eval s=.slice A n c){q cap:Nat}(X:a.eval x=.slice (some ⟨q,0,none⟩) 1 cap)(h:w.ownsRow H e k (.slice A n c) n xs)(N:cs.length=k)(y:∀u∈cs,u.oneCell'=true)(Q:∀j u,cs[j]? =some u->w.cell? ⟨q,j,none⟩=some u)(O:n<=100000000)(F:H<=w.heap.size)(I:∀A2 c2 w',w'.ownsRow H e k (.slice A2 (n+1) c2) (n+1) (xs++cs)->KD A w w'->((A2.map (·.block)=A.map (·.block)\/A2.map (·.block)=some w.heap.size)/\(w'.os=w.os/\w'.output=w.output))->wpList Tryz.prog l m v (a.put b (.slice A2 (n+1) c2)) w'):wpList Tryz.prog l m (⟨b,.call {callee:=.builtin .append,args:= #[s,x],argTypes:= #[t,t]},ty,r,o,p⟩::v) a w:=by
 obtain⟨a2,d,Y,Z,a0⟩:=xj d;refine tj W fun K E=> ?_
 obtain⟨A2,c2,w',R,B,C,D⟩:=Wb (P:=Tryz.prog) (ty:=ty) U d Y Z a0 a1 M hb h N y (cap:=cap) Q O F;unfold Oper.wp execOp;simp only[resolve,invoke,builtin,uL,vm,tK,List.map_toArray,uH,List.map_nil,T,X,R];exact E _ _ (I A2 c2 w' B C D)
end
structure Mv(w w':World)(g k:Nat)(own tI:Nat->Option Nat):Prop where
 size:w.heap.size<=w'.heap.size
 zw:∀b,b<w.heap.size->b≠g->own k≠some b->w'.heap[b]? =w.heap[b]?
 oth:∀j,j≠k->tI j=own j
 this:tI k=own k\/tI k=some w.heap.size
 inj:∀i j b,own i=some b->own j=some b->i=j
 ER:∀j b,own j=some b->g<b/\b<w.heap.size
section
variable{w w':World}{g k:Nat}{own tI:Nat->Option Nat}{L:acO}
def Mv.fr(m:Mv w w' g k own tI){b:Nat}(h:Fr w g own b):w'.heap[b]? =w.heap[b]?/\Fr w' g tI b:=by
 refine⟨m.zw b h.1 h.2.1 (h.2.2 k),by have:=m.size;exact kE,h.2.1,fun j=> ?_⟩;by_cases a:j=k
 ·subst a;rcases m.this with e|e;·rw[e];exact h.2.2 j
  ·rw[e];intro e;injection e with e;exact kE
 ·rw[m.oth j a];exact h.2.2 j
def Mv.cell(m:Mv w w' g k own tI){q:Addr}(h:Fr w g own q.block):w'.cell? q=w.cell? q:=rD (w:=w) (m.fr h).1
def Mv.frl(m:Mv w w' g k own tI){b:Nat}(h:Ia w g own L b):w'.heap[b]? =w.heap[b]?/\Ia w' g tI L b:=⟨(m.fr h.1).1,(m.fr h.1).2,h.2⟩
def Mv.OL(m:Mv w w' g k own tI){q:Addr}(h:Ia w g own L q.block):w'.cell? q=w.cell? q:=m.cell h.1
def Mv.ZM(m:Mv w w' g k own tI):∀i j b,tI i=some b->tI j=some b->i=j:=by
 have key:∀i b,tI i=some b->(own i=some b)\/(i=k/\b=w.heap.size):=fun i b h=>
  by
   by_cases a:i=k
   ·subst a;rcases m.this with e|e;·exact .inl (e▸h)
    ·rw[e]at h;injection h with h;exact .inr ⟨rfl,h.symm⟩
   ·exact .inl (by rw[m.oth i a]at h;exact h)
 intro i j b a o;rcases key i b a with d|⟨d,p⟩<;>rcases key j b o with l|⟨l,q⟩;·exact m.inj i j b d l
 ·have:=m.ER i b d;omega
 ·have:=m.ER j b l;omega
 ·omega
def Mv.row(m:Mv w w' g k own tI){j e:Nat}{t:TypeId}(p:j≠k){A:acN}{n n' c:Nat}{xs:List Value}(h:w.ownsRow (g+1) t e (.slice A n c) n' xs)(o:A.map (·.block)=own j):w'.ownsRow (g+1) t e (.slice A n c) n' xs:=vb h fun b hb=>by have a:own j=some b:=o▸hb;have d:=m.ER j b a;exact m.zw b d.2 V fun l=>p (m.inj j k b a l)
def Mv.lo(m:Mv w w' g k own tI)(lo:∀b,L b->g<b/\b<w.heap.size/\∀k,own k≠some b):∀b,L b->g<b/\b<w'.heap.size/\∀k,tI k≠some b:=fun b hb=>have h:=lo b hb;⟨h.1,by have:=m.size;omega,(m.fr ⟨h.2.1,V,h.2.2⟩).2.2.2⟩
def WM(w:World)(g:Nat)(own:Nat->Option Nat)(L:acO)(x:Nd)(A1:acN)(n1 c1:Nat)(A3:acN)(n3 c3:Nat):Prop:=Row w (Ia w g own L) 1 A1 n1 (uF x.aliases)/\Row w (Ia w g own L) 1 A3 n3 (uF x.symbols)/\n1<=c1/\n3<=c3/\n1<=100000000/\n3<=100000000
def YZ(w:World)(g:Nat)(own:Nat->Option Nat)(L:acO)(k:Nat)(b:List Fd)(A2:acN)(n2 c2:Nat):Prop:=∃a:List (List Value),w.ownsRow (g+1) 82 9 (.slice A2 n2 c2) n2 a.flatten/\(∀cs∈a,cs.length=9)/\a.length=b.length/\(∀(i:Nat)(h:i<a.length)(d:i<b.length),Bw w (Ia w g own L) a[i] b[i])/\A2.map (·.block)=own k/\n2<=100000000
def YY(w:World)(g:Nat)(own:Nat->Option Nat)(k:Nat)(a:List Int)(A4:acN)(n4 c4:Nat):Prop:=w.ownsRow (g+1) 3 1 (.slice A4 n4 c4) n4 (yI a).flatten/\A4.map (·.block)=own k/\n4<=100000000
def WM.mv(m:Mv w w' g k own tI){x:Nd}{A1:acN}{n1 c1:Nat}{A3:acN}{n3 c3:Nat}(h:WM w g own L x A1 n1 c1 A3 n3 c3):WM w' g tI L x A1 n1 c1 A3 n3 c3:=⟨h.1.keep (fun _=>m.OL) (fun _ h=>(m.frl h).2),h.2.1.keep (fun _=>m.OL) (fun _ h=>(m.frl h).2),h.2.2⟩
def YZ.mv(m:Mv w w' g k own tI){j:Nat}(l:j≠k){d:List Fd}{A2:acN}{n2 c2:Nat}(h:YZ w g own L j d A2 n2 c2):YZ w' g tI L j d A2 n2 c2:=by obtain⟨o,p,q,r,t,e,v⟩:=h;exact⟨o,m.row l p e,q,r,fun i a b=>(t i a b).keep (fun _=>m.OL) (fun _ h=>(m.frl h).2),by rw[m.oth j l];exact e,v⟩
def YY.mv(m:Mv w w' g k own tI){j:Nat}(b:j≠k){a:List Int}{A4:acN}{n4 c4:Nat}(h:YY w g own j a A4 n4 c4):YY w' g tI j a A4 n4 c4:=⟨m.row b h.1 h.2.1,by rw[m.oth j b];exact h.2.1,h.2.2⟩
end
def TE(x:Nd)(A1:acN)(n1 c1:Nat)(A2:acN)(n2 c2:Nat)(A3:acN)(n3 c3:Nat)(A4:acN)(n4 c4:Nat):List Value:=(nL x A1 n1 c1 A2 n2 c2 A3 n3 c3 A4 n4 c4)
def Ry(w:World)(g:Nat)(own:Nat->Option Nat)(L:acO)(i:Nat)(cs:List Value)(x:Nd):Prop:=∃(A1:acN)(n1 c1:Nat)(A2:acN)(n2 c2:Nat)(A3:acN)(n3 c3:Nat)(A4:acN)(n4 c4:Nat),cs=TE x A1 n1 c1 A2 n2 c2 A3 n3 c3 A4 n4 c4/\WM w g own L x A1 n1 c1 A3 n3 c3/\YZ w g own L (2*i+1) x.fields A2 n2 c2/\YY w g own (2*i+2) x.rR A4 n4 c4
def Ry.mv{w w':World}{g k:Nat}{own tI:Nat->Option Nat}{L:acO}(m:Mv w w' g k own tI){i:Nat}(d:2*i+1≠k)(j:2*i+2≠k){cs:List Value}{x:Nd}(h:Ry w g own L i cs x):Ry w' g tI L i cs x:=by obtain⟨A1,n1,c1,A2,n2,c2,A3,n3,c3,A4,n4,c4,e,a,f,b⟩:=h;exact⟨A1,n1,c1,A2,n2,c2,A3,n3,c3,A4,n4,c4,e,a.mv m,f.mv m d,b.mv m j⟩
structure Cr(w:World)(g:Nat)(own:Nat->Option Nat)(L:acO)(A:acN)(n c:Nat)(S:List Nd):Prop where
 row:∃css:List (List Value),w.ownsRow (g+1) 79 10 (.slice A n c) n css.flatten/\css.length=n/\S.length=n/\∀(i:Nat)(h:i<css.length)(h':i<S.length),Ry w g own L i css[i] S[i]
 hd:A.map (·.block)=own 0
 inj:∀i j b,own i=some b->own j=some b->i=j
 ER:∀j b,own j=some b->g<b/\b<w.heap.size
 out:∀j,2*n<j->own j=none
 lt:g<w.heap.size
 le:n<=1000
 lo:∀b,L b->g<b/\b<w.heap.size/\∀k,own k≠some b
def Ry.len{w:World}{g:Nat}{own:Nat->Option Nat}{L:acO}{i:Nat}{cs:List Value}{x:Nd}(h:Ry w g own L i cs x):cs.length=10:=by obtain⟨A1,n1,c1,A2,n2,c2,A3,n3,c3,A4,n4,c4,e,_⟩:=h;rw[e];rfl
def CV{w:World}{g:Nat}{own:Nat->Option Nat}{L:acO}{css:List (List Value)}{S:List Nd}(e:css.length=S.length)(h:∀(i:Nat)(h:i<css.length)(d:i<S.length),Ry w g own L i css[i] S[i]):∀cs∈css,cs.length=10:=fun cs a=>by obtain⟨i,b,rfl⟩:=Jp.1 a;exact(h i b V).len
structure DF(w w':World)(g:Nat)(own tI:Nat->Option Nat):Prop where
 size:w.heap.size<=w'.heap.size
 zw:∀b,Fr w g own b->w'.heap[b]? =w.heap[b]?/\Fr w' g tI b
 env:w'.os=w.os/\w'.output=w.output
def DF.refl(w:World)(g:Nat)(own:Nat->Option Nat):DF w w g own own:=⟨rN _,fun _ h=>⟨rfl,h⟩,rfl,rfl⟩
def DF.trans{w w1 j:World}{g:Nat}{own d e:Nat->Option Nat}(h:DF w w1 g own d)(a:DF w1 j g d e):DF w j g own e:=⟨sG h.1 a.1,fun b hb=>⟨((a.2 b (h.2 b hb).2).1).trans (h.2 b hb).1,(a.2 b (h.2 b hb).2).2⟩,a.env.1.trans h.env.1,a.env.2.trans h.env.2⟩
def Mv.ym{w w':World}{g k:Nat}{own tI:Nat->Option Nat}(m:Mv w w' g k own tI)(a:w'.os=w.os/\w'.output=w.output):DF w w' g own tI:=⟨m.size,fun _ h=>m.fr h,a⟩
section
variable{w w':World}{g n c:Nat}{own:Nat->Option Nat}{L:acO}{A:acN}{S:List Nd}
def Cr.VZ(h:Cr w g own L A n c S)(e:w.heap.size<=w'.heap.size)(hb:∀b,b<w.heap.size->b≠g->w'.heap[b]? =w.heap[b]?):∀k,Mv w w' g k own own:=fun k=>⟨e,fun b d a _=>hb b d a,fun _ _=>rfl,.inl rfl,h.inj,h.ER⟩
def Cr.keep(h:Cr w g own L A n c S)(d:w.heap.size<=w'.heap.size)(hb:∀b,b<w.heap.size->b≠g->w'.heap[b]? =w.heap[b]?):Cr w' g own L A n c S:=by obtain⟨css,l,m,o,p⟩:=h.row;refine⟨⟨css,(h.VZ d hb 1).row (j:=0) V l h.hd,m,o,fun i a b=>(p i a b).mv (h.VZ d hb 0) V V⟩,h.hd,h.inj,fun j b e=>⟨(h.ER j b e).1,by have:=(h.ER j b e).2;omega⟩,h.out,by have:=h.lt;omega,h.le,(h.VZ d hb 0).lo h.lo⟩
def Cr.ym(h:Cr w g own L A n c S)(d:w.heap.size<=w'.heap.size)(hb:∀b,b<w.heap.size->b≠g->w'.heap[b]? =w.heap[b]?)(a:w'.os=w.os/\w'.output=w.output):DF w w' g own own:=(h.VZ d hb 0).ym a
def Cr.fresh(h:Cr w g own L A n c S){css:List (List Value)}(d:css.length=n)(C:∀(i:Nat)(h:i<css.length)(D:i<S.length),Ry w g own L i css[i] S[i]){A':acN}{c':Nat}{x:Nd}{A1:acN}{n1 c1:Nat}{A3:acN}{n3 c3:Nat}(a:w'.ownsRow (g+1) 79 10 (.slice A' (n+1) c') (n+1) (css.flatten++TE x A1 n1 c1 none 0 0 A3 n3 c3 none 0 0))(hg:KD A w w')(l:(A'.map (·.block)=A.map (·.block)\/A'.map (·.block)=some w.heap.size)/\(w'.os=w.os/\w'.output=w.output))(v:WM w g own L x A1 n1 c1 A3 n3 c3)(y:x.fields=[])(hb:x.rR=[])(I:n<1000):∃tI,Cr w' g tI L A' (n+1) c' (S++[x])/\DF w w' g own tI:=by
 have m:Mv w w' g 0 own (fun j=>if j=0 then A'.map (·.block)else own j):=⟨hg.1,fun b B E z=>hg.2 b B (h.hd▸z),fun j hj=>ru hj,by simp only[uw];rw[<-h.hd];exact l.1,h.inj,h.ER⟩;have o:S.length=n:=h.row.elim fun _ r=>r.2.2.1
 refine⟨_,⟨⟨css++[TE x A1 n1 c1 none 0 0 A3 n3 c3 none 0 0],by simpa using a,by simp[d],by simp[o],?_⟩,bi,m.ZM,?_,?_,by have:=h.lt;have:=hg.1;omega,V,m.lo h.lo⟩,m.ym l.2⟩
 ·intro i p F;by_cases H:i<n;·rw[vl V,vl V];exact(C i V V).mv m V V
  ·obtain rfl:i=n:=by rw[rC,d]at p;simp at p;omega
   have q:(css++[TE x A1 n1 c1 none 0 0 A3 n3 c3 none 0 0])[i]=TE x A1 n1 c1 none 0 0 A3 n3 c3 none 0 0:=by rw[tO V];simp[d]
   have t:(S++[x])[i]=x:=by rw[tO V];simp[o]
   rw[q,t];refine⟨A1,n1,c1,none,0,0,A3,n3,c3,none,0,0,rfl,v.mv m,⟨[],uu _ _ _ _,bi,by rw[y];rfl,fun i h=>absurd h bi,?_,V⟩,⟨by rw[hb];exact uu _ _ _ _,?_,V⟩⟩;·exact ow
   ·exact ow
 ·intro j b e;by_cases hj:j=0;·subst hj;simp only[uw]at e;exact⟨by have:=(uQ a e).1;omega,(uQ a e).2⟩
  ·exact nN
 ·intro j hj;rw[ru V];exact h.out j V
end
def IA{k:Nat}:∀(css:List (List Value))(i q:Nat)(v:Value),(∀cs∈css,cs.length=k)->∀h:i<css.length,q<k->css.flatten.set (i*k+q) v=(css.set i (css[i].set q v)).flatten
 | [],i,_,_,_,h,_=>absurd h bi
 |a::l,0,q,v,b,_,d=>by rw[wX,sY,tJ,List.set_append,rv (by rw[b a bi];exact d)];simp
 |a::l,i+1,q,v,b,h,d=>by have e:=b a bi;have j:(i+1)*k=i*k+k:=AP i k;rw[tJ,List.set_append,ru (by rw[e];omega),e,show(i+1)*k+q-k=i*k+q from V,IA l i q v (fun cs hc=>b cs kQ) dC d];simp
structure Jm(w:World)(g:Nat)(own:Nat->Option Nat)(L:acO)(A:acN)(n c:Nat)(S:List Nd)(i G:Nat)(css:List (List Value))(x:Nd)(A1:acN)(n1 c1:Nat)(A2:acN)(n2 c2:Nat)(A3:acN)(n3 c3:Nat)(A4:acN)(n4 c4:Nat):Prop where
 hA:A=some ⟨G,0,none⟩
 r1:w.ownsRow (g+1) 79 10 (.slice A n c) n css.flatten
 r2:css.length=n
 r3:S.length=n
 r4:∀(j:Nat)(h:j<css.length)(h':j<S.length),Ry w g own L j css[j] S[j]
 hx:S[i]? =some x
 VB:css[i]? =some (TE x A1 n1 c1 A2 n2 c2 A3 n3 c3 A4 n4 c4)
 ha:WM w g own L x A1 n1 c1 A3 n3 c3
 hf:YZ w g own L (2*i+1) x.fields A2 n2 c2
 hb:YY w g own (2*i+2) x.rR A4 n4 c4
 hG:g<G/\G<w.heap.size
 cell:∀q v,(TE x A1 n1 c1 A2 n2 c2 A3 n3 c3 A4 n4 c4)[q]? =some v->w.cell? ⟨G,i*10+q,none⟩=some v
 fz:∀q,w.frozen? ⟨G,q,none⟩=false
def Le{k:Nat}:∀(css:List (List Value))(i q:Nat)(cs:List Value)(v:Value),(∀cs∈css,cs.length=k)->css[i]? =some cs->cs[q]? =some v->css.flatten[i*k+q]? =some v
 | [],i,_,_,_,_,h,_=>absurd h bi
 |a::l,0,q,cs,v,d,h,b=>by simp at h;subst h;have j:q<a.length:=(rK.1 b).1;rw[tJ,wX,sY,DJ j];exact b
 |a::l,i+1,q,cs,v,d,h,b=>by have e:=d a bi;have m:(i+1)*k=i*k+k:=AP i k;rw[tJ,yN (by rw[e];omega),e,show(i+1)*k+q-k=i*k+q from V];exact Le l i q cs v (fun cs hc=>d cs kQ) dC b
section
variable{w w':World}{g n c:Nat}{own:Nat->Option Nat}{L:acO}{A:acN}{S:List Nd}
def Cr.at_(h:Cr w g own L A n c S){i:Nat}(z:i<n):∃G css x A1 n1 c1 A2 n2 c2 A3 n3 c3 A4 n4 c4,Jm w g own L A n c S i G css x A1 n1 c1 A2 n2 c2 A3 n3 c3 A4 n4 c4:=by
 obtain⟨css,d,r,t,j⟩:=h.row;obtain⟨A1,n1,c1,A2,n2,c2,A3,n3,c3,A4,n4,c4,e,a,f,b⟩:=j i V V;obtain⟨G,cap,hv,y,_⟩:=World.ownsRow.form d V;have m:A=some ⟨G,0,none⟩:=ie;have l:css[i]? =some (TE S[i] A1 n1 c1 A2 n2 c2 A3 n3 c3 A4 n4 c4):=by rw[ry V,e]
 subst m;have o:=uQ d (b:=G) rfl;refine⟨G,css,S[i],A1,n1,c1,A2,n2,c2,A3,n3,c3,A4,n4,c4,rfl,d,r,t,j,ry V,l,a,f,b,⟨V,o.2⟩,fun q v p=> ?_,fun q=>World.ownsRow.frozenAt d q⟩;have:=World.ownsRow.cells (g:=G) d rfl (i*10+q) v (Le css i q _ v (CV V j) l p);rwa[xO,sY]at this
def Nb{G i q:Nat}{css:List (List Value)}{cs:List Value}{v:Value}{x':Nd}(D:w.ownsRow (g+1) 79 10 (.slice (some ⟨G,0,none⟩) n c) n css.flatten)(E:css.length=n)(F:S.length=n)(z:∀cs∈css,cs.length=10)(K:i<n)(C:q<10)(H:∀(j:Nat)(h:j<css.length)(I:j<S.length),j≠i->Ry w g own L j css[j] S[j])(a:css[i]? =some cs)(B:Ry w g own L i (cs.set q v) x')(o:some G=own 0)(p:∀i j b,own i=some b->own j=some b->i=j)(r:∀j b,own j=some b->g<b/\b<w.heap.size)(out:∀j,2*n<j->own j=none)(lt:g<w.heap.size)(le:n<=1000)(lo:∀b,L b->g<b/\b<w.heap.size/\∀k,own k≠some b):Cr (w.setCell ⟨G,i*10+q,none⟩ v) g own L (some ⟨G,0,none⟩) n c (S.set i x')/\DF w (w.setCell ⟨G,i*10+q,none⟩ v) g own own:=by
 obtain⟨s1,s2⟩:=World.ownsRow.stored D (i*10+q) v;have m:Mv w (w.setCell ⟨G,i*10+q,none⟩ v) g 0 own own:=⟨s2.size,fun b hb _ y=>s2.block b hb (by rw[o];exact fun e=>y e.symm),fun _ _=>rfl,.inl rfl,p,r⟩;have l:i<css.length:=V;rw[ry l]at a;injection a with a;rw[IA css i q v z l C,a]at s1;refine⟨⟨⟨css.set i (cs.set q v),s1,by simpa using E,by simpa using F,fun j hj t=> ?_⟩,o,p,fun j b e=>by have:=r j b e;exact fg,out,by simpa using lt,le,m.lo lo⟩,m.ym ⟨rfl,rfl⟩⟩;by_cases d:j=i;·subst d;rw[List.getElem_set_self,List.getElem_set_self];exact B.mv m V V
 ·rw[List.getElem_set_ne (Cc d),List.getElem_set_ne (Cc d)];exact(H j fu (by simpa using t) d).mv m V V
variable{i G:Nat}{css:List (List Value)}{x:Nd}{A1:acN}{n1 c1:Nat}{A2:acN}{n2 c2:Nat}{A3:acN}{n3 c3:Nat}{A4:acN}{n4 c4:Nat}
def Cr.items(h:Cr w g own L A n c S)(a:Jm w g own L A n c S i G css x A1 n1 c1 A2 n2 c2 A3 n3 c3 A4 n4 c4)(o:i<n)(k:Int):Cr (w.setCell ⟨G,i*10+8,none⟩ (.int .i64 k)) g own L A n c (S.set i {x with items:=k})/\DF w (w.setCell ⟨G,i*10+8,none⟩ (.int .i64 k)) g own own:=by obtain⟨rfl,p,q,r,b,v,l,e,m,hb,t,_,_⟩:=a;exact Nb p q r (CV V b) o V (fun j h d _=>b j h d) l ⟨A1,n1,c1,A2,n2,c2,A3,n3,c3,A4,n4,c4,rfl,e,m,hb⟩ h.hd h.inj h.ER h.out h.lt h.le h.lo
def Jm.keep(a:Jm w g own L A n c S i G css x A1 n1 c1 A2 n2 c2 A3 n3 c3 A4 n4 c4)(h:Cr w g own L A n c S)(d:w.heap.size<=w'.heap.size)(hb:∀b,b<w.heap.size->b≠g->w'.heap[b]? =w.heap[b]?):Jm w' g own L A n c S i G css x A1 n1 c1 A2 n2 c2 A3 n3 c3 A4 n4 c4:=have e:=hb G a.hG.2 (by have:=a.hG.1;omega);⟨a.hA,(h.VZ d hb 1).row (j:=0) V a.r1 h.hd,a.r2,a.r3,fun j p q=>(a.r4 j p q).mv (h.VZ d hb 0) V V,a.hx,a.VB,a.ha.mv (h.VZ d hb 0),a.hf.mv (h.VZ d hb 0) V,a.hb.mv (h.VZ d hb 0) V,⟨a.hG.1,by have:=a.hG.2;omega⟩,fun q v l=>(rD (w:=w) (a:=⟨G,i*10+q,none⟩) e).trans (a.cell q v l),fun q=>(sA (w:=w) (a:=⟨G,q,none⟩) e).trans (a.fz q)⟩
def Jm.grow(h:Cr w g own L A n c S)(a:Jm w g own L A n c S i G css x A1 n1 c1 A2 n2 c2 A3 n3 c3 A4 n4 c4)(y:i<n){k:Nat}(l:k=2*i+1\/k=2*i+2){B B':acN}(d:B.map (·.block)=own k)(hg:KD B w w')(o:B'.map (·.block)=B.map (·.block)\/B'.map (·.block)=some w.heap.size)(p:∀b,B'.map (·.block)=some b->g<b/\b<w'.heap.size):∃tI,Mv w w' g k own tI/\tI k=B'.map (·.block)/\some G=tI 0/\(∀i j b,tI i=some b->tI j=some b->i=j)/\(∀j b,tI j=some b->g<b/\b<w'.heap.size)/\(∀j,2*n<j->tI j=none)/\w'.ownsRow (g+1) 79 10 (.slice A n c) n css.flatten/\(∀(j:Nat)(h:j<css.length)(t:j<S.length),j≠i->Ry w' g tI L j css[j] S[j]):=by
 have m:Mv w w' g k own (fun j=>if j=k then B'.map (·.block)else own j):=⟨hg.1,fun b r v l=>hg.2 b r (d▸l),fun j hj=>ru hj,by simp only[uw];rw[<-d];exact o,h.inj,h.ER⟩;refine⟨_,m,rv rfl,?_,m.ZM,?_,?_,m.row (j:=0) V a.r1 h.hd,fun j hj q z=>(a.r4 j hj q).mv m V V⟩;·rw[ru V,<-h.hd,a.hA];rfl
 ·intro j b e;by_cases hj:j=k;·rw[rv hj]at e;exact p b e
  ·exact nN
 ·intro j hj;rw[ru V];exact h.out j hj
def Cr.branch(h:Cr w g own L A n c S)(a:Jm w g own L A n c S i G css x A1 n1 c1 A2 n2 c2 A3 n3 c3 A4 n4 c4)(o:i<n){d:acN}{j:Nat}{k:Int}(ho:w'.ownsRow (g+1) 3 1 (.slice d (n4+1) j) (n4+1) ((yI x.rR).flatten++[.int .i64 k]))(z:KD A4 w w')(l:(d.map (·.block)=A4.map (·.block)\/d.map (·.block)=some w.heap.size)/\(w'.os=w.os/\w'.output=w.output))(M:n4<1000):∃tI,Cr (w'.setCell ⟨G,i*10+9,none⟩ (.slice d (n4+1) j)) g tI L A n c (S.set i {x with rR:=x.rR++[k]})/\DF w (w'.setCell ⟨G,i*10+9,none⟩ (.slice d (n4+1) j)) g own tI:=by obtain⟨tI,m,e,t,B,I,out,D,H⟩:=a.grow h o (.inr rfl) a.hb.2.1 z l.1 (fun b hb=>oe);obtain⟨rfl,_,E,F,C,N,r,p,y,hb,K,_,_⟩:=a;have:=Nb (x':={x with rR:=x.rR++[k]}) (v:=.slice d (n4+1) j) (q:=9) D E F (CV V C) o V H r ⟨A1,n1,c1,A2,n2,c2,A3,n3,c3,d,n4+1,j,rfl,p.mv m,y.mv m V,by simpa[yI]using ho,e.symm,V⟩ t B I out (by have:=h.lt;have:=m.size;omega) h.le (m.lo h.lo);exact⟨tI,this.1,(m.ym l.2).trans this.2⟩
def Cr.field(h:Cr w g own L A n c S)(a:Jm w g own L A n c S i G css x A1 n1 c1 A2 n2 c2 A3 n3 c3 A4 n4 c4)(t:i<n){l:acN}{o:Nat}{f:Fd}{cs:List Value}(N:cs.length=9)(H:Bw w (Ia w g own L) cs f){d:List (List Value)}(D:∀cs∈d,cs.length=9)(E:d.length=x.fields.length)(F:∀(i:Nat)(h:i<d.length)(a0:i<x.fields.length),Bw w (Ia w g own L) d[i] x.fields[i])(ho:w'.ownsRow (g+1) 82 9 (.slice l (n2+1) o) (n2+1) (d.flatten++cs))(Q:KD A2 w w')(r:(l.map (·.block)=A2.map (·.block)\/l.map (·.block)=some w.heap.size)/\(w'.os=w.os/\w'.output=w.output))(a5:n2<1000):∃tI,Cr (w'.setCell ⟨G,i*10+3,none⟩ (.slice l (n2+1) o)) g tI L A n c (S.set i {x with fields:=x.fields++[f]})/\DF w (w'.setCell ⟨G,i*10+3,none⟩ (.slice l (n2+1) o)) g own tI:=by
 obtain⟨_,_,_,_,_,K,_⟩:=a.hf;obtain⟨tI,m,e,O,R,Z,out,U,Y⟩:=a.grow h t (.inl rfl) K Q r.1 (fun b hb=>oe);obtain⟨rfl,_,W,X,T,a6,M,I,a2,hb,a1,_,_⟩:=a;have mk:∀{cs f},Bw w (Ia w g own L) cs f->Bw w' (Ia w' g tI L) cs f:=fun h=>h.keep (fun _=>m.OL) (fun _ h=>(m.frl h).2)
 have:=Nb (x':={x with fields:=x.fields++[f]}) (v:=.slice l (n2+1) o) (q:=3) U W X (CV V T) t V Y M ⟨A1,n1,c1,l,n2+1,o,A3,n3,c3,A4,n4,c4,rfl,I.mv m,⟨d++[cs],by simpa using ho,by
  intro z sW;rcases sl.1 sW with p|p;·exact D z p
  ·rw[sH]at p;rw[p];exact N,by simp[E],fun j a3 a4=>
  by
   by_cases y:j<d.length;·rw[vl y,vl V];exact mk (F j y V)
   ·have B:(d++[cs])[j]=cs:=oy;have C:(x.fields++[f])[j]=f:=oy;rw[B,C];exact mk H,e.symm,V⟩,hb.mv m V⟩ O R Z out (by have:=h.lt;have:=m.size;omega) h.le (m.lo h.lo)
 exact⟨tI,this.1,(m.ym r.2).trans this.2⟩
def Cr.Lx{L':acO}(h:Cr w g own L A n c S)(T:w.heap.size<=w'.heap.size)(hb:∀b,b<w.heap.size->b≠g->¬L b->w'.heap[b]? =w.heap[b]?)(l:∀b,L' b->(L b\/w.heap.size<=b)/\b<w'.heap.size):Cr w' g own L' A n c S:=by
 obtain⟨css,O,P,Q,R⟩:=h.row;have r:∀b k,own k=some b->w'.heap[b]? =w.heap[b]?:=fun b k e=>hb b (h.ER k b e).2 (by have:=(h.ER k b e).1;omega) fun M=>(h.lo b M).2.2 k e
 have m:∀b,Ia w g own L b->w'.heap[b]? =w.heap[b]?/\Ia w' g own L' b:=fun b d=>
  ⟨hb b d.1.1 d.1.2.1 d.2,⟨by have:=d.1.1;omega,d.1.2.1,d.1.2.2⟩,fun H=>
   by
    rcases(l b H).1 with v|v;·exact d.2 v
    ·have:=d.1.1;omega⟩
 have p:∀q:Addr,Ia w g own L q.block->w'.cell? q=w.cell? q:=fun q N=>rD (w:=w) (m _ N).1
 refine⟨⟨css,vb O fun b e=>r b 0 (h.hd▸e),P,Q,fun i I K=> ?_⟩,h.hd,h.inj,fun j b e=>⟨(h.ER j b e).1,by have:=(h.ER j b e).2;omega⟩,h.out,by have:=h.lt;omega,h.le,fun b o=> ?_⟩;·obtain⟨A1,n1,c1,A2,n2,c2,A3,n3,c3,A4,n4,c4,e,a,⟨E,y,z,B,C,t,D⟩,b⟩:=R i I K;exact⟨A1,n1,c1,A2,n2,c2,A3,n3,c3,A4,n4,c4,e,⟨a.1.keep p (fun b h=>(m b h).2),a.2.1.keep p (fun b h=>(m b h).2),a.2.2⟩,⟨E,vb y fun b e=>r b _ (t▸e),z,B,fun i h F=>(C i h F).keep p (fun b h=>(m b h).2),t,D⟩,vb b.1 fun q e=>r q _ (b.2.1▸e),b.2⟩
 ·rcases(l b o).1 with d|d;·exact⟨(h.lo b d).1,(l b o).2,(h.lo b d).2.2⟩
  ·exact⟨by have:=h.lt;omega,(l b o).2,fun k e=>by have:=(h.ER k b e).2;omega⟩
def Cr.Md(h:Cr w g own L A n c S):tV w (fun b=>g<b/\b<w.heap.size\/Ia w g own L b) A n S:=by obtain⟨css,y,z,B,j⟩:=h.row;refine⟨css,(Row.wK y (CV V j) V).keep (fun _ _=>rfl) (fun b hb=>.inl ⟨hb.1,hb.2.1⟩),V,fun i t v=> ?_⟩;obtain⟨A1,n1,c1,A2,n2,c2,A3,n3,c3,A4,n4,c4,e,a,f,b⟩:=j i t v;rw[e];obtain⟨q,d,l,m,o,_,p⟩:=f;refine .mk (a.1.keep (fun _ _=>rfl) fun b hb=>.inr hb) ⟨q,(Row.wK d l V).keep (fun _ _=>rfl) (fun b hb=>.inl ⟨hb.1,hb.2.1⟩),m,fun i h r=>(o i h r).keep (fun _ _=>rfl) fun b hb=>.inr hb⟩ (a.2.1.keep (fun _ _=>rfl) fun b hb=>.inr hb) ((Row.wK b.1 (by simp[yI]) V).keep (fun _ _=>rfl) (fun b hb=>.inl ⟨hb.1,hb.2.1⟩)) a.2.2.1 (zp d) a.2.2.2.1 (zp b.1) a.2.2.2.2.1 p a.2.2.2.2.2 b.2.2
end
def Zd(H:Nat)(w:World)(j:J)(e:Ending)(w':World):Prop:=∃(k i:Int)(t:ByteArray)(A:acN)(n c:Nat)(A':acN)(n' c':Nat),e=.returned (jA k i t A n c A' n' c')/\uf w' (fun b=>H<=b/\b<w'.heap.size) (jv k i t A n c A' n' c') j/\acP w w'
def Ya{w:World}{X:acO}{css:List (List Value)}{items:List J}(j:css.length=items.length)(b:∀(i:Nat)(h:i<css.length)(e:i<items.length),uf w X css[i] items[i]):∀cs∈css,∀u∈cs,u.oneCell'=true:=by intro cs a;obtain⟨i,d,rfl⟩:=zy a;exact uG.one (b i d V)
def FW(l:List acM):∀cs∈uF l,∀u∈cs,u.oneCell'=true:=by intro cs VB u hu;unfold uF at VB;exact iU
def V9(l:List Int):∀cs∈yI l,∀u∈cs,u.oneCell'=true:=by intro cs VB u hu;unfold yI at VB;exact iU
def T9{cs:List Value}(h:cs.length=5)(a b c d e:Value):((((cs.set 0 a).set 1 b).set 2 c).set 3 d).set 4 e=[a,b,c,d,e]:=by
 match cs,h with
 | [_,_,_,_,_],_=>rfl
structure Xh(w:World)(H G:Nat)(j:Nat)(Co:List (List Value))(items:List J)(css:List (List Value)):Prop where
 at_:At w G 5 css
 len:css.length=Co.length
 done:∀(i:Nat)(h:i<css.length)(h':i<items.length),i<j->uf w (fun b=>(H<=b/\b<w.heap.size)/\b≠G) css[i] items[i]
 rest:∀i,j<=i->css[i]? =Co[i]?
def Xh.below{w w':World}{H G j:Nat}{Co css:List (List Value)}{items:List J}(h:Xh w H G j Co items css)(hb:acP w w')(d:G<w.heap.size):Xh w' H G j Co items css:=⟨h.at_.below hb d,h.len,fun i e l m=>(h.done i e l m).keep (fun q o=>hb.cell o.1.2) (fun b a=>⟨⟨a.1.1,dE⟩,a.2⟩),h.rest⟩
def Xh.step{w w':World}{H G j:Nat}{Co css:List (List Value)}{items:List J}(h:Xh w H G j Co items css)(hb:acP w w')(O:G<w.heap.size)(T:H<=w.heap.size)(hj:j<css.length){x:J}(hx:items[j]? =some x){a b c d e:Value}(R:uf w' (fun q=>w.heap.size<=q/\q<w'.heap.size) [a,b,c,d,e] x):∃F,Xh (((((w'.setCell ⟨G,j*5,none⟩ a).setCell ⟨G,j*5+1,none⟩ b).setCell ⟨G,j*5+2,none⟩ c).setCell ⟨G,j*5+3,none⟩ d).setCell ⟨G,j*5+4,none⟩ e) H G (j+1) Co items F:=by
 have o:=h.below hb O;have U:=hb.size;obtain⟨cs,z⟩:∃cs,css[j]? =some cs:=⟨_,ry hj⟩;have Q:=(o.at_ j cs z).1;have E:=o.at_.put z (r:=0) V a;have I:(css.set j (cs.set 0 a))[j]? =some (cs.set 0 a):=jg;have p:=E.put I (r:=1) V b;rw[tn]at p;have K:(css.set j ((cs.set 0 a).set 1 b))[j]? =some ((cs.set 0 a).set 1 b):=jg;have t:=p.put K (r:=2) V c;rw[tn]at t;have M:(css.set j (((cs.set 0 a).set 1 b).set 2 c))[j]? =some (((cs.set 0 a).set 1 b).set 2 c):=jg;have v:=t.put M (r:=3) V d;rw[tn]at v;have N:(css.set j ((((cs.set 0 a).set 1 b).set 2 c).set 3 d))[j]? =some ((((cs.set 0 a).set 1 b).set 2 c).set 3 d):=jg;have y:=v.put N (r:=4) V e;rw[tn,T9 Q]at y;have C:rS G w'.heap.size w' (((((w'.setCell ⟨G,j*5,none⟩ a).setCell ⟨G,j*5+1,none⟩ b).setCell ⟨G,j*5+2,none⟩ c).setCell ⟨G,j*5+3,none⟩ d).setCell ⟨G,j*5+4,none⟩ e):=(((((rS.refl G _ w').setAt (j*5) a).setAt (j*5+1) b).setAt (j*5+2) c).setAt (j*5+3) d).setAt (j*5+4) e;have D:(((((w'.setCell ⟨G,j*5,none⟩ a).setCell ⟨G,j*5+1,none⟩ b).setCell ⟨G,j*5+2,none⟩ c).setCell ⟨G,j*5+3,none⟩ d).setCell ⟨G,j*5+4,none⟩ e).heap.size=w'.heap.size:=bi;refine⟨css.set j [a,b,c,d,e],y,by rw[sT];exact h.len,?_,?_⟩
 ·intro i B YQ hij;rw[sT]at B;rw[Fw];split;·rename_i e;subst e;have:items[j]=x:=kg;rw[this];exact R.keep (fun q m=>C.cell m.2 V) (fun b l=>⟨⟨V,by rw[D];exact l.2⟩,V⟩)
  ·rename_i e;exact(o.done i B YQ V).keep (fun q m=>C.cell m.1.2 m.2) (fun b l=>⟨⟨l.1.1,by rw[D];exact l.1.2⟩,l.2⟩)
 ·exact nI
def QL:∀(N:Nat)(j:J),SizeOf.sizeOf j<=N->∀(w:World)(X:acO)(k i:Int)(t:ByteArray)(A:acN)(n c:Nat)(A':acN)(n' c':Nat),uf w X (jv k i t A n c A' n' c') j->(∀b,X b->b<w.heap.size)->Calls Tryz.prog 79 #[jA k i t A n c A' n' c'] w (Zd w.heap.size w j):=by
 intro N;induction N with
 |zero=>exact eX
 |succ N g6=>
  intro j fj w X k i t A n c A' n' c' h hX;cases h with
  |mk hr fn br dI gn go di dj=>
   rename_i text items keys css;have df:=((acQ w).al rT (jC k i ⟨text.toArray⟩ A n c A' n' c')).alloc bi (jZ);have cj:=(vC.new w k i ⟨text.toArray⟩ A n c A' n' c' w.heap.size rfl).below (vK.alloc rT (jZ)) bi;have cl:=vC.new (w.alloc (jC k i ⟨text.toArray⟩ A n c A' n' c')) 0 0 ⟨#[]⟩ none 0 0 none 0 0 (w.heap.size+1) bi;have e3:((w.alloc (jC k i ⟨text.toArray⟩ A n c A' n' c')).alloc (jZ)).heap.size=w.heap.size+2:=bi;go_enter Tryz.func79,Tryz.ntmps79;go_upto_region 1 with fail;generalize(w.alloc (jC k i ⟨text.toArray⟩ A n c A' n' c')).alloc (jZ)=w1 at*;have eb:=rq e3;have g3:w.heap.size+1<w1.heap.size:=V;clear e3;refine vS (K:=Below) Below.keeps (sk.of [0,1,3,4,2,6,5] .nil) 7 (sk.of [8,9] .nil) [2,5,9] [1,4] bg bg bC bg (fun _ _ d _ _ h=>bw) (fun wd ak sW=> ?_);have el:=cj.below ak V;have cr:=cl.below ak V;have af:=df.sV (by have:=eb.out;omega) ak;have gA:w.heap.size+1<wd.heap.size:=V;have e0:=Row.below hr af hX;have dK:=Row.below dI af hX;have ad:∀b,X b->b<wd.heap.size:=fun b hb=>bl
   clear ak sW cj cl df g3;obtain⟨⟨M,O,R,T,U⟩,d2⟩:=el;repeat((first|(refine wG rfl rfl rfl rfl bh ?_)|(refine wI rfl rfl rfl rfl ?_)|(refine wH rfl rfl rfl rfl (w.heap.size+1) V _ (by intro w' hb;have cb:=(hb.cell (p:=⟨w.heap.size,0,none⟩) bd).trans M;have cc:=(hb.cell (p:=⟨w.heap.size,1,none⟩) bd).trans O;have cf:=(hb.cell (p:=⟨w.heap.size,2,none⟩) bd).trans R;have ch:=(hb.cell (p:=⟨w.heap.size,3,none⟩) bd).trans T;have ci:=(hb.cell (p:=⟨w.heap.size,4,none⟩) bd).trans U;clear hb;go_simp;first|done|with_reducible rfl) ?_));simp only[Act.put,rB,rz,rA])
   refine uC rfl rfl (w.heap.size+1) V (fun a3 e=> ?_);go_wp2_with fail;refine(zY wd X A' n' c' (uF keys) dK (FW keys) dj ad).mono ?_;rintro e' m ⟨A3,c3,rfl,bv,vX⟩;go_wp2_with fail;refine e _ _ (vX.mono V) ?_;clear e;refine av ?_;refine uC rfl rfl (w.heap.size+1) V (fun a3 e=> ?_);go_wp2_with fail;refine(MN m X A n c css (Row.below e0 vX ad) (Ya fn br) di (fun b hb=>by have:=ad b hb;exact dm)).mono ?_;rintro e' r ⟨A4,c4,rfl,bx,E⟩;go_wp2_with fail;refine e _ _ (E.mono dm) ?_;clear e;refine av ?_;have gr:=vX.size;have gs:=E.size;have ei:=vC.below (vC.below (w:=wd) ⟨⟨M,O,R,T,U⟩,d2⟩ vX V) E V;have cp:=(cr.below vX V).below E V;have a7:=(af.trans (vX.mono (B':=w.heap.size) V)).trans (E.mono (B':=w.heap.size) V);have f7:=zP bv;have f8:=zP bx;have e1:=Row.wK bv iq V;have e2:Row r (fun b=>wd.heap.size<=b/\b<m.heap.size) 1 A3 n' (uF keys):=e1.keep (fun q D=>E.cell D.2.1) (fun b hb=>⟨hb.1,hb.2.1⟩);have dz:∀(i:Nat)(h:i<css.length)(v:i<items.length),uf r X css[i] items[i]:=fun i h v=>(br i h v).stay a7 hX
   have dN:0<n->∃G,A4=some ⟨G,0,none⟩/\m.heap.size<=G/\G<r.heap.size/\At r G 5 css/\css.length=n:=J5 bx hr.C2 V;have b3:=rq (show items.length=n from cM);clear M O R T U d2 cr af e0 dK ad e1 bv br vX E;obtain⟨⟨b4,b5,b6,b7,b8⟩,b9⟩:=ei;refine Be rfl (fun a3 e=> ?_);go_wp2_with fail;refine e _ _ trivial ?_;clear e;refine ai ?_;refine rZ rfl rfl 0 rT (fun a3 e=> ?_);go_wp2_with fail;refine e _ _ trivial ?_;clear e;refine sI ?_;have ek:vC ((r.setCell ⟨w.heap.size,4,none⟩ (.slice A3 n' c3)).setCell ⟨w.heap.size,3,none⟩ (.slice A4 n c4)) w.heap.size k i ⟨text.toArray⟩ A4 n c4 A3 n' c3:=⟨⟨bf,bf,bf,bf,bf⟩,fun j=>by have:=b9 j;go_simp⟩;have a1:rS w.heap.size r.heap.size r ((r.setCell ⟨w.heap.size,4,none⟩ (.slice A3 n' c3)).setCell ⟨w.heap.size,3,none⟩ (.slice A4 n c4)):=((rS.refl _ _ _).setAt 4 _).setAt 3 _;have e4:((r.setCell ⟨w.heap.size,4,none⟩ (.slice A3 n' c3)).setCell ⟨w.heap.size,3,none⟩ (.slice A4 n c4)).heap.size=r.heap.size:=bi;generalize(r.setCell ⟨w.heap.size,4,none⟩ (.slice A3 n' c3)).setCell ⟨w.heap.size,3,none⟩ (.slice A4 n c4)=H at*;have ef:=rq e4;clear e4 b4 b5 b6 b7 b8 b9;have f2:=a7.trans (a1.below (B':=w.heap.size) (by have:=a7.size;omega) V);have bs:∀(i:Nat)(h:i<css.length)(v:i<items.length),uf H X css[i] items[i]:=fun i h v=>(dz i h v).stay (a1.below (B':=w.heap.size) (by have:=a7.size;omega) V) hX
   have g0:Row H (fun b=>wd.heap.size<=b/\b<m.heap.size) 1 A3 n' (uF keys):=e2.keep (fun q D=>a1.cell V V) (fun _ h=>h);have em:=cp.off a1 V V;have bz:0<n->∃G,A4=some ⟨G,0,none⟩/\m.heap.size<=G/\G<r.heap.size/\At H G 5 css/\css.length=n:=fun h=>by obtain⟨G,W,Y,a5,Z,d7⟩:=dN h;exact⟨G,W,Y,a5,Z.off a1 V V,d7⟩
   have gx:=ef.out;clear dN cp e2 dz a1 a7 bx;have h1:w.heap.size+1<m.heap.size:=V;have h2:m.heap.size<=H.heap.size:=V;have f0:=bz;obtain⟨G,es⟩:∃G,(0<n->A4=some ⟨G,0,none⟩)/\m.heap.size<=G/\(0<n->G<H.heap.size)/\(0<n->At H G 5 css):=by
    by_cases o:0<n;·obtain⟨G,W,Y,a5,Z,d7⟩:=bz o;exact⟨G,fun _=>W,Y,fun _=>V,fun _=>Z⟩
    ·exact⟨m.heap.size,fun h=>absurd h o,rN _,fun h=>absurd h o,fun h=>absurd h o⟩
   obtain⟨d8,a6,d9,et⟩:=es;have dp:css.length=n:=hr.len;have b2:=rq dp;clear bz f0 dp hr dI;obtain⟨⟨b4,b5,b6,b7,b8⟩,b9⟩:=ek;go_wp2_with fail;go_loopw [15] (fun c5 wr=>∃(j:Nat)(C:List (List Value)),c5=.int .i64 j/\j<=n/\(0<n->Xh wr wd.heap.size G j css items C)/\Below m.heap.size H wr/\(C.length=n)) (fun c5 _=>n-(intOf c5).toNat);case atStart=>exact⟨0,css,rfl,rO _,fun h=>⟨et h,rfl,fun i h v o=>absurd o V,fun _ _=>rfl⟩,Below.refl _ _,b2.out⟩
   case
    round=>
     obtain⟨j,C,rfl,hj,bp,B,dr⟩:=hrel;have I:=rq dr;have h0:=B.size;have cx:=(B.cell (p:=⟨w.heap.size,0,none⟩) bd).trans b4;have cy:=(B.cell (p:=⟨w.heap.size,1,none⟩) bd).trans b5;have cz:=(B.cell (p:=⟨w.heap.size,2,none⟩) bd).trans b6;have cS:=(B.cell (p:=⟨w.heap.size,3,none⟩) bd).trans b7;have d0:=(B.cell (p:=⟨w.heap.size,4,none⟩) bd).trans b8;have ct:=em.below (B.mono (show w.heap.size+2<=m.heap.size from V)) V;clear dr;by_cases an:j<n
     ·have fm:(j:Int)<(n:Int):=V;have bj:0<n:=V;have F:=bp bj;obtain rfl:=d8 bj;have z:G<wr.heap.size:=by have:=d9 bj;omega
      obtain⟨x,ar⟩:∃x,items[j]? =some x:=⟨_,ry (by rw[b3.out];exact an)⟩;have aU:j<items.length:=by rw[b3.out];exact an
      have bn:j<css.length:=by rw[b2.out];exact an
      have bO:items[j]=x:=by rw[ry aU]at ar;injection ar
      have a8:=bs j bn aU;rw[bO]at a8;obtain⟨e6,e5,e7,A1,n1,c1,A2,n2,c2,bk⟩:=a8.form;have dk:C[j]? =some (jv e6 e5 e7 A1 n1 c1 A2 n2 c2):=by rw[F.rest j rT,ry bn,bk]
      rw[bk]at a8;have dB:=a8.stay (B.mono (B':=w.heap.size) V) hX;have g4:SizeOf.sizeOf x<=N:=by have:=vd (bO▸rY aU);simp only[J.mk.sizeOf_spec]at fj;omega
      have a0:=(F.at_ j _ dk).2;have a4:=a0 0 _ rfl;have a9:=a0 1 _ rfl;have aa:=a0 2 _ rfl;have ab:=a0 3 _ rfl;have ac:=a0 4 _ rfl;obtain⟨a4,be⟩:=a4;obtain⟨a9,d3⟩:=a9;obtain⟨aa,d4⟩:=aa;obtain⟨ab,d5⟩:=ab;obtain⟨ac,d6⟩:=ac;rw[si]at a4 be;have dd:∀b,X b->b<wr.heap.size:=fun b hb=>bl
      have f9:j<C.length:=by rw[I.out];exact an
      have eg:=rq ar;clear ar bO a8 bk a0 dk bn aU bs;go_upto_region 5 with fail;refine vS (K:=Below) Below.keeps (sk.of [0,1,2,3,4,5,6,7,8,9] .nil) 10 (sk.of [] .nil) [8] [1,4,7] bg bg bC bg (fun _ _ d _ _ h=>bw) (fun a2 a gl=> ?_);have M:=(a.cell (p:=⟨w.heap.size,0,none⟩) bd).trans cx;have O:=(a.cell (p:=⟨w.heap.size,1,none⟩) bd).trans cy;have R:=(a.cell (p:=⟨w.heap.size,2,none⟩) bd).trans cz;have T:=(a.cell (p:=⟨w.heap.size,3,none⟩) bd).trans cS;have U:=(a.cell (p:=⟨w.heap.size,4,none⟩) bd).trans d0;have u0:=(a.cell (p:=⟨G,j*5,none⟩) z).trans a4;have c6:=(a.cell (p:=⟨G,j*5+1,none⟩) z).trans a9;have c7:=(a.cell (p:=⟨G,j*5+2,none⟩) z).trans aa;have c8:=(a.cell (p:=⟨G,j*5+3,none⟩) z).trans ab;have c9:=(a.cell (p:=⟨G,j*5+4,none⟩) z).trans ac;have o:=(a.frozen (p:=⟨G,j*5,none⟩) z).trans be;have W:=(a.frozen (p:=⟨G,j*5+1,none⟩) z).trans d3;have Y:=(a.frozen (p:=⟨G,j*5+2,none⟩) z).trans d4;have a5:=(a.frozen (p:=⟨G,j*5+3,none⟩) z).trans d5;have Z:=(a.frozen (p:=⟨G,j*5+4,none⟩) z).trans d6;have fb:=F.below a z;have fi:=dB.stay a dd;have f3:=B.trans (a.mono (B':=m.heap.size) V);have y:G<a2.heap.size:=V;have h3:w.heap.size<a2.heap.size:=V;clear a F dB cx cy cz cS d0 a4 a9 aa ab ac be d3 d4 d5 d6 ct;repeat((first|(refine wG rfl rfl rfl rfl bh ?_)|(refine wI rfl rfl rfl rfl ?_)|(refine wH rfl rfl rfl rfl (a2.heap.size) V _ (by intro w' hb;have cb:=(hb.cell (p:=⟨w.heap.size,0,none⟩) bd).trans M;have cc:=(hb.cell (p:=⟨w.heap.size,1,none⟩) bd).trans O;have cf:=(hb.cell (p:=⟨w.heap.size,2,none⟩) bd).trans R;have ch:=(hb.cell (p:=⟨w.heap.size,3,none⟩) bd).trans T;have ci:=(hb.cell (p:=⟨w.heap.size,4,none⟩) bd).trans U;have h6:=(hb.cell (p:=⟨G,j*5,none⟩) bd).trans u0;have h7:=(hb.cell (p:=⟨G,j*5+1,none⟩) bd).trans c6;have h8:=(hb.cell (p:=⟨G,j*5+2,none⟩) bd).trans c7;have h9:=(hb.cell (p:=⟨G,j*5+3,none⟩) bd).trans c8;have ha:=(hb.cell (p:=⟨G,j*5+4,none⟩) bd).trans c9;clear hb;go_simp;first|done|with_reducible rfl) ?_));simp only[Act.put,rB,rz,rA])
      refine uC rfl rfl (a2.heap.size) V (fun a3 e=> ?_);go_wp2_with fail;refine(g6 x g4 a2 X e6 e5 e7 A1 n1 c1 A2 n2 c2 fi (fun b hb=>by have:=dd b hb;omega)).mono ?_;rintro e' h5 ⟨g7,g5,gb,e8,g8,en,e9,g9,er,rfl,fl,l⟩;go_wp2_with fail;refine e _ _ l ?_;clear e;repeat((first|(refine wG rfl rfl rfl rfl bh ?_)|(refine wI rfl rfl rfl rfl ?_)|(refine wH rfl rfl rfl rfl (a2.heap.size) V _ bB ?_));simp only[Act.put,rB,rz,rA])
      obtain⟨d1,ds⟩:=fb.step l y V f9 eg.out fl;have dM:d1.length=n:=ds.len.trans b2.out;have gz:=l.size;have gc:=(l.cell (p:=⟨G,j*5,none⟩) y).trans u0;have cb:=(l.frozen (p:=⟨G,j*5,none⟩) y).trans o;have gd:=(l.cell (p:=⟨G,j*5+1,none⟩) y).trans c6;have cc:=(l.frozen (p:=⟨G,j*5+1,none⟩) y).trans W;have gf:=(l.cell (p:=⟨G,j*5+2,none⟩) y).trans c7;have cf:=(l.frozen (p:=⟨G,j*5+2,none⟩) y).trans Y;have gi:=(l.cell (p:=⟨G,j*5+3,none⟩) y).trans c8;have ch:=(l.frozen (p:=⟨G,j*5+3,none⟩) y).trans a5;have gk:=(l.cell (p:=⟨G,j*5+4,none⟩) y).trans c9;have ci:=(l.frozen (p:=⟨G,j*5+4,none⟩) y).trans Z;refine Be rfl (fun a3 e=> ?_);go_wp2_with fail;refine e _ _ trivial ?_;clear e;refine sI ?_;have f5:=(((((f3.trans (l.mono (B':=m.heap.size) V)).setCell (p:=⟨G,j*5,none⟩) a6 (.int .i64 g7)).setCell (p:=⟨G,j*5+1,none⟩) a6 (.int .i64 g5)).setCell (p:=⟨G,j*5+2,none⟩) a6 (.string gb)).setCell (p:=⟨G,j*5+3,none⟩) a6 (.slice e8 g8 en)).setCell (p:=⟨G,j*5+4,none⟩) a6 (.slice e9 g9 er);have ea:=rq dM;clear M O R T U u0 c6 c7 c8 c9 dM gc gd gf gi gk cb cc cf ch ci o W Y a5 Z;go_wp2_with fail;refine⟨⟨j+1,d1,bi,V,fun _=>ds,f5,ea.out⟩,?_⟩;exact bK
     ·obtain rfl:j=n:=V;have fm:¬(j:Int)<(j:Int):=V;have f4:=f2.trans (B.mono (B':=w.heap.size) V);have g1:Row wr (fun b=>wd.heap.size<=b/\b<m.heap.size) 1 A3 n' (uF keys):=g0.keep (fun q D=>B.cell D.2) (fun _ h=>h);have f1:Row wr (fun b=>wd.heap.size<=b/\b<wr.heap.size) 5 A4 j C/\∀(i:Nat)(h:i<C.length)(v:i<items.length),uf wr (fun b=>wd.heap.size<=b/\b<wr.heap.size) C[i] items[i]:=by
       by_cases o:0<j;·have F:=bp o;obtain rfl:=d8 o;have:=d9 o;exact⟨F.at_.row I.out _ ⟨V,V⟩,fun i h v=>(F.done i h v (by rw[I.out]at h;exact h)).keep (fun _ _=>rfl) (fun b hb=>⟨V,hb.1.2⟩)⟩
       ·obtain rfl:j=0:=V;have f6:C=[]:=rI I.out;subst f6;exact⟨Row.nil _ _ _ _,fun i h=>absurd h bi⟩
      obtain⟨g2,ff⟩:=f1;have fs:∀b1:World,rS (w.heap.size+1) wr.heap.size wr b1->uf b1 (fun b=>w.heap.size<=b/\b<b1.heap.size) (jv k i ⟨text.toArray⟩ A4 j c4 A3 n' c3) (.mk k i text items keys):=by intro b1 b0;have h4:=b0.size;refine .mk (g2.keep (fun q D=>b0.cell D.2 V) (fun b hb=>⟨V,V⟩)) (by rw[I.out,b3.out]) (fun i h v=>(ff i h v).keep (fun q D=>b0.cell D.2 V) (fun b hb=>⟨V,V⟩)) (g1.keep (fun q D=>b0.cell V V) (fun b hb=>⟨V,V⟩)) f8 f7 di dj
      obtain⟨⟨hc,hd,he,hf,hg⟩,hh⟩:=ct;clear I bp bs;go_wp2_with fail;refine rV (uD (k:=k) (i:=i) (t:=⟨text.toArray⟩) (A:=A4) (n:=j) (c:=c4) (A':=A3) (n':=n') (c':=c3) rfl rfl ⟨bf,bf,bf,bf,bf⟩) rfl ?_;refine⟨k,i,⟨text.toArray⟩,A4,j,c4,A3,n',c3,rfl,fs _ (((((rS.refl _ _ _).setAt 0 _).setAt 1 _).setAt 2 _).setAt 3 _|>.setAt 4 _),?_⟩;repeat' (first|with_reducible exact f4|with_reducible refine Below.setCell ?_ bd _)
