import Derived.Test.YtccjlcadbpinfaaGreatDoorX0
import Derived.Test.YtccjlcadbpinfaaGreatDoorK
set_option linter.all false
namespace Go.Proofs.YtccjlcadbpinfaaGreatDoor.Mem
open ChangeShapes WideShapes ChangeAt RowKit
def _root_.Go.RowKit.Below.drewN{B:Nat}{a w:World}(h:Below B a w)(n:Nat):Below B a (w.drewN n):=⟨h.os,h.tape,h.output,h.size,h.block⟩
def _root_.Go.RowKit.Below.setAt{g:Nat}{a w:World}(h:Below g a w)(i:Nat)(u:Value):Below g a (w.setCell ⟨g,i,none⟩ u):=h.setCell (p:=⟨g,i,none⟩) (rN g) u
def _root_.Go.RowKit.Below.sV{B:Nat}{a b c:World}(h:Below B a b)(d:B<=a.heap.size)(hb:acP b c):Below B a c:=h.trans (hb.mono (sG d h.size))
def _root_.Go.RowKit.Below.al{B:Nat}{a b:World}(h:Below B a b)(d:B<=a.heap.size)(o:Obj):Below B a (b.alloc o):=h.alloc (sG d h.size) o
def bc(x:UInt8):Value:=.int .u8 (x.toNat:Int)
def cells(xs:acM):List Value:=xs.map bc
def yn(xs:acM):(cells xs).length=xs.length:=sD ..
def JB(xs ys:acM):cells (xs++ys)=cells xs++cells ys:=wO ..
def EC(xs:acM):∀u∈cells xs,u.oneCell'=true:=by intro u b;obtain⟨x,_,rfl⟩:=sR.1 b;rfl
def Rd(w:World)(B:Nat)(A:acN)(n:Nat)(xs:acM):Prop:=xs.length=n/\(0<n->∃g o,A=some ⟨g,o,none⟩/\g<B/\∀j x,xs[j]? =some x->w.cell? ⟨g,o+j,none⟩=some (.int .u8 (x.toNat:Int)))
section
variable{w w':World}{B B' n:Nat}{A:acN}{xs ys:acM}
def Rd.len(h:Rd w B A n xs):xs.length=n:=h.1
def Rd.nil(w:World)(B:Nat)(A:acN):Rd w B A 0 []:=⟨rfl,fun h=>absurd h V⟩
def Rd.at_(h:Rd w B A n xs){k:Nat}(j:k<n):∃g o x,A=some ⟨g,o,none⟩/\g<B/\xs[k]? =some x/\w.cell? ⟨g,o+k,none⟩=some (.int .u8 (x.toNat:Int)):=by obtain⟨g,o,e,hb,d⟩:=h.2 V;have b:k<xs.length:=kE;exact⟨g,o,xs[k],e,hb,ry b,d k _ (ry b)⟩
def Rd.keep(h:Rd w B A n xs)(d:∀p:Addr,p.block<B->w'.cell? p=w.cell? p):Rd w' B A n xs:=⟨h.1,fun k=>by obtain⟨g,o,e,hb,b⟩:=h.2 k;exact⟨g,o,e,hb,fun j u l=>(d _ hb).trans (b j u l)⟩⟩
def Rd.more(h:Rd w B A n xs)(j:B<=B'):Rd w B' A n xs:=⟨h.1,fun d=>by obtain⟨g,o,e,hb,b⟩:=h.2 d;exact⟨g,o,e,V,b⟩⟩
def Rd.below(h:Rd w B A n xs)(hb:Below B w w'):Rd w' B A n xs:=h.keep fun _ b=>hb.cell b
def Rd.tw(h:Rd w B A n xs)(hb:Below B' w w')(b:B<=B'):Rd w' B A n xs:=h.keep fun _ d=>hb.cell V
def Rd.drewN(h:Rd w B A n xs)(k:Nat):Rd (w.drewN k) B A n xs:=h
def Rd.drew(h:Rd w B A n xs):Rd w.drew B A n xs:=h
def Rd.alloc(h:Rd w B A n xs)(b:B<=w.heap.size)(o:Obj):Rd (w.alloc o) B A n xs:=h.keep fun p d=>World.cell?_alloc_lt w o p V
def Rd.cut(h:Rd w B A n xs){k cap:Nat}(l:k<=n)(e:n<=cap):Rd w B (if cap=k then A else A.map (·.add k)) (n-k) (xs.drop k):=by refine⟨by rw[sx,h.1],fun m=> ?_⟩;obtain⟨g,o,rfl,hb,b⟩:=h.2 V;rw[ru V];refine⟨g,o+k,by simp[xO],hb,fun j u d=> ?_⟩;rw[zL];exact b _ u (by rw[<-d,z6])
def Rd.upto(h:Rd w B A n xs){k:Nat}(e:k<=n):Rd w B A k (xs.take k):=by
 refine⟨by rw[xx,h.1];omega,fun l=> ?_⟩;obtain⟨g,o,rfl,hb,d⟩:=h.2 V;refine⟨g,o,rfl,hb,fun j u b=>d j u ?_⟩;rw[xP]at b;split at b;·exact b
 ·cases b
end
def Own(w:World)(base:Nat)(A:acN)(n c:Nat)(xs:acM):Prop:=w.ownsRow base 5 1 (.slice A n c) n (cells xs)
section
variable{w w':World}{base n c:Nat}{A:acN}{xs ys:acM}
def Own.len(h:Own w base A n c xs):xs.length=n:=by have:=h.1;rw[yn]at this;omega
def Own.nil(w:World)(base:Nat):Own w base none 0 0 []:=uu w base 5 1
def Own.rd(h:Own w base A n c xs):Rd w w.heap.size A n xs:=by refine⟨h.len,fun e=> ?_⟩;obtain⟨g,cap,hv,_,d⟩:=World.ownsRow.form h e;have b:A=some ⟨g,0,none⟩:=ie;subst b;refine⟨g,0,rfl,d,fun j x k=> ?_⟩;have:=World.ownsRow.cells (g:=g) h rfl j (bc x) (by simp[cells,k]);rw[xO]at this;exact this
def Own.block(h:Own w base A n c xs):∀b,A=some b->base<=b.block/\b.block<w.heap.size:=by rintro b rfl;exact World.ownsRow.lt h b.block rfl
def Own.below(h:Own w base A n c xs)(hb:acP w w'):Own w' base A n c xs:=World.ownsRow.kept h (row:=none) ⟨hb.os,hb.tape,hb.output,hb.size,fun k b _=>hb.block k b⟩ (by cases A<;>simp[Value.ownBlock])
def Own.alloc(h:Own w base A n c xs)(o:Obj):Own (w.alloc o) base A n c xs:=World.ownsRow.alloc h o
def Own.drewN(h:Own w base A n c xs)(k:Nat):Own (w.drewN k) base A n c xs:=h
def Own.drew(h:Own w base A n c xs):Own w.drew base A n c xs:=h
def Own.cap(h:Own w base A n c xs):n<=c:=dA
def Own.lit(w:World)(base:Nat)(xs:acM)(hb:base<=w.heap.size)(b:xs.length<=maxLen):Own (w.alloc (.cells (cells xs).toArray 5)) base (some ⟨w.heap.size,0,none⟩) xs.length xs.length xs:=by refine⟨by simp[yn],.inr ⟨w.heap.size,xs.length,(cells xs).toArray,rfl,hb,JJ w _,rN _,b,by simp[yn],?_⟩⟩;rw[xQ (by simp[yn])]
end
def N9(w:World)(x:UInt8):Rd (w.alloc (.cells #[.int .u8 (x.toNat:Int)] 5)) (w.heap.size+1) (some ⟨w.heap.size,0,none⟩) 1 [x]:=by
 refine⟨rfl,fun _=>⟨w.heap.size,0,rfl,V,fun j y b=> ?_⟩⟩;match j,b with
 |0,b=>simp at b;subst b;simp
def rd_val(w:World)(x:UInt8)(v:Int)(b:v=(x.toNat:Int)):Rd (w.alloc (.cells #[.int .u8 v] 5)) (w.heap.size+1) (some ⟨w.heap.size,0,none⟩) 1 [x]:=by rw[b];exact N9 w x
def Al(w:World)(xs:acM):Rd (w.alloc (.cells (cells xs).toArray 5)) (w.heap.size+1) (some ⟨w.heap.size,0,none⟩) xs.length xs:=by refine⟨rfl,fun _=>⟨w.heap.size,0,rfl,V,fun j y b=> ?_⟩⟩;rw[U1 _ _ _ _ _ _ (JJ w _)];simp[cells,b,bc]
def zU:(Tryz.prog.info? 5).map (fun i=>(i.zero,i.size,i.bytes))=some (some (.int .u8 0),1,1):=bg
section
variable{ops:Array Oper}{rest:List Oper}{o:Oper}{a:Act}{Q:Exit->Act->World->Prop}{w:World}
section
variable{P:Program}{t b e dst:TypeId}{base n c m d B:Nat}
def BW{A:acN}{xs:acM}{t:TypeId}{i:TypeInfo}(h:P.underlying t=some (.slice 5))(e:P.info? 5=some i)(_hz:i.size=1)(k:Own w base A n c xs)(ty:TypeId)(A':acN)(d:Nat):(Builtin.append_ #[t,t] ty #[.slice A n c,.slice A' 0 d]).run P w=.ok (.slice A n c) w:=by
 rcases k.2 with⟨b,m⟩|⟨g,cap,l,b,_,_,j,_⟩;·injection b with h1 h2 h3;subst h1 h2 h3;cases A'<;>simp[Builtin.append_,AX h,sizeOf,typeInfo,e,Builtin.lenOf,Builtin.firstCells,loadCells,loadCellsFrom]
 ·injection b with h1 h2 h3;subst h1 h3;cases A'<;>simp[Builtin.append_,AX h,sizeOf,typeInfo,e,Builtin.lenOf,Builtin.firstCells,j,storeCells,loadCells,loadCellsFrom]
def Wm{A A':acN}{xs ys:acM}(ty:TypeId)(D2:Own w base A n c xs)(hr:Rd w B A' m ys)(K:n+m<=140737488355328)(Dm:base<=w.heap.size):∃b c2 w',(Builtin.append_ #[22,22] ty #[.slice A n c,.slice A' m d]).run Tryz.prog w=.ok (.slice b (n+m) c2) w'/\Own w' base b (n+m) c2 (xs++ys)/\Below base w w':=by
 obtain⟨E,e,C,l,D⟩:=xj zU;by_cases r:m=0;·subst r;have v:ys=[]:=rI hr.1;subst v;exact⟨A,c,w,BW sZ e l D2 ty A' d,by simpa using D2,Below.refl _ _⟩
 ·obtain⟨g,p,rfl,I,hc⟩:=hr.2 V;obtain⟨F,w',t,h2,h3,G,H⟩:=uR (P:=Tryz.prog) w base 22 ty 5 E (.int .u8 0) 1 1 sZ e C l D rfl bD (.slice A n c) n (cells xs) D2 ⟨g,p,none⟩ m d (cells ys) jH cV (EC ys) de V Dm;have q:∃b c2,F=.slice b (n+m) c2:=cH;obtain⟨b,c2,rfl⟩:=q;refine⟨b,c2,w',t,by unfold Own;exact kN,?_⟩;exact bQ
def yF{dst:Option Tmp}{s x:Operand}{ty:TypeId}{pos:String}{af:Array Edge}{gd:Option (Nat×Bool)}(v:Region.wanted ⟨dst,.call {callee:=.builtin .append,args:= #[s,x],argTypes:= #[22,22]},ty,pos,af,gd⟩ (yielded ops a.tmps)=true){base n c m d B:Nat}{A A':acN}{xs ys:acM}(r:a.eval s=.slice A n c)(l:Own w base A n c xs)(C:a.eval x=.slice A' m d)(p:Rd w B A' m ys)(t:n+m<=140737488355328)(k:base<=w.heap.size)(h:∀b c2 w',Own w' base b (n+m) c2 (xs++ys)->Below base w w'->wpList Tryz.prog ops Q rest (a.put dst (.slice b (n+m) c2)) w'):wpList Tryz.prog ops Q (⟨dst,.call {callee:=.builtin .append,args:= #[s,x],argTypes:= #[22,22]},ty,pos,af,gd⟩::rest) a w:=by
 refine tj v fun K j=> ?_
 obtain⟨b,c2,w',q,e,g⟩:=Wm (w:=w) ty l p t k (d:=d);unfold Oper.wp execOp;simp only[resolve,invoke,builtin,uL,vm,tK,List.map_toArray,uH,List.map_nil,r,C,q];exact j _ _ (h b c2 w' e g)
def Kl(h:P.underlying b=some (.slice e))(g:P.underlying e=some (.int .u8))(d:P.underlying dst=some .string)(A:acN)(c:Nat):(convert b dst (.slice A 0 c)).run P w=.ok (.string ⟨([]:acM).toArray⟩) w:=by
 rw[run_convert_bytes_string w _ _ e _ _ _ h g d];cases A with
 |none=>simp[Conv.bytesToString];rfl
 |some j=>simp[Conv.bytesToString,loadCells,loadCellsFrom];rfl
def FH(xs:acM):strOfNums (xs.map fun x=>(x.toNat:Int))=⟨xs.toArray⟩:=by simp only[strOfNums,Gi];rw[show((fun n:Int=>UInt8.ofNat n.toNat)∘ fun x:UInt8=>(x.toNat:Int))=id from by funext x;simp,UZ]
def Pu{A:acN}{xs:acM}(b:Rd w B A n xs):(convert 22 9 (.slice A n c)).run Tryz.prog w=.ok (.string ⟨xs.toArray⟩) w:=by
 by_cases j:n=0;·subst j;have k:xs=[]:=rI b.1;subst k;exact Kl sZ BC zh A c
 ·obtain⟨g,p,rfl,l,e⟩:=b.2 V;have h:=run_convert_bytes_arg (P:=Tryz.prog) w 22 5 sZ BC g p n c (xs.map fun x=>(x.toNat:Int)) (by simp[b.1]) (by
   intro i m;have d:i<xs.length:=by have:=b.1;omega
   rw[e i xs[i] (ry d)];simp[List.getD,d]) 9 zh
  rw[FH]at h;exact h
def SS{dst:Option Tmp}{x:Operand}{ty:TypeId}{pos:String}{af:Array Edge}{gd:Option (Nat×Bool)}{n c B:Nat}{A:acN}{xs:acM}(d:a.eval x=.slice A n c)(b:Rd w B A n xs):(execOp a.eval ⟨dst,.convert 22 9 x,ty,pos,af,gd⟩).run Tryz.prog w=.ok (.value (.string ⟨xs.toArray⟩)) w:=by unfold execOp;simp only[uL,vm,tK,d,Pu b]
def Dd{dst:Option Tmp}{x:Operand}{ty:TypeId}{pos:String}{af:Array Edge}{gd:Option (Nat×Bool)}(e:Region.wanted ⟨dst,.convert 22 9 x,ty,pos,af,gd⟩ (yielded ops a.tmps)=true){n c B:Nat}{A:acN}{xs:acM}(g:a.eval x=.slice A n c)(d:Rd w B A n xs)(h:wpList Tryz.prog ops Q rest (a.put dst (.string ⟨xs.toArray⟩)) w):wpList Tryz.prog ops Q (⟨dst,.convert 22 9 x,ty,pos,af,gd⟩::rest) a w:=by
 refine tj e fun K b=> ?_
 unfold Oper.wp execOp;simp only[uL,vm,tK,g,Pu d];exact b _ _ h
def Wn{i:TypeInfo}(ht:P.underlying t=some (.slice e))(g:P.info? e=some i)(j:i.size=1)(A:acN)(n c p:Nat)(l:p<=n)(k:IntKind):(Instr.sliceAt t (.slice A n c) (some (.int k (p:Int))) none none).run P w=.ok (.slice (if c=p then A else A.map (·.add p)) (n-p) (c-p)) w:=by have b:P.underlying t=some (.slice (P.elem t)):=iS;have d:P.elem t=e:=iS;rw[run_sliceAt_slice w t _ _ _ _ b,run_slice_l w t _ _ _ b _ _ V V,d];simp[sizeOf,typeInfo,g,j,Result.andThen,sliced]
def T7{i:TypeInfo}(ht:P.underlying t=some (.slice e))(g:P.info? e=some i)(j:i.size=1)(A:acN)(n c p q:Nat)(m:p<=q)(r:q<=c)(k l:IntKind):(Instr.sliceAt t (.slice A n c) (some (.int k (p:Int))) (some (.int l (q:Int))) none).run P w=.ok (.slice (if c=p then A else A.map (·.add p)) (q-p) (c-p)) w:=by have b:P.underlying t=some (.slice (P.elem t)):=iS;have d:P.elem t=e:=iS;rw[run_sliceAt_slice w t _ _ _ _ b,run_slice_lh w t _ _ _ b _ _ _ _ V V V,d];simp[sizeOf,typeInfo,g,j,Result.andThen,sliced]
def T8(A:acN)(n c p:Nat)(d:p<=n)(k:IntKind):(Instr.sliceAt 22 (.slice A n c) (some (.int k (p:Int))) none none).run Tryz.prog w=.ok (.slice (if c=p then A else A.map (·.add p)) (n-p) (c-p)) w:=by obtain⟨j,b,g,e,h⟩:=xj zU;exact Wn sZ b e A n c p d k
def Re(A:acN)(n c p q:Nat)(e:p<=q)(g:q<=c)(k b:IntKind):(Instr.sliceAt 22 (.slice A n c) (some (.int k (p:Int))) (some (.int b (q:Int))) none).run Tryz.prog w=.ok (.slice (if c=p then A else A.map (·.add p)) (q-p) (c-p)) w:=by obtain⟨m,d,j,h,l⟩:=xj zU;exact T7 sZ d h A n c p q e g k b
end
end
abbrev jC(k i:Int)(t:ByteArray)(A:acN)(n c:Nat)(B:acN)(m d:Nat):Go.Obj:=.cells #[.int .i64 k,.int .i64 i,.string t,.slice A n c,.slice B m d] 60
abbrev jA(k i:Int)(t:ByteArray)(A:acN)(n c:Nat)(B:acN)(m d:Nat):Value:=.agg #[.int .i64 k,.int .i64 i,.string t,.slice A n c,.slice B m d]
abbrev jZ:Go.Obj:=.cells #[.int .i64 0,.int .i64 0,.string ⟨#[]⟩,.slice none 0 0,.slice none 0 0] 60
abbrev sC(A:acN)(n c:Nat)(r:Int):Go.Obj:=.cells #[.slice A n c,.int .i64 r] 32
abbrev wC(k n:Int)(t:ByteArray)(a b:Int):Go.Obj:=.cells #[.int .i64 k,.int .i64 n,.string t,.int .i64 a,.int .i64 b] 117
abbrev wZ:Go.Obj:=.cells #[.int .i64 0,.int .i64 0,.string ⟨#[]⟩,.int .i64 0,.int .i64 0] 117
end Go.Proofs.YtccjlcadbpinfaaGreatDoor.Mem
namespace Go.Proofs.YtccjlcadbpinfaaGreatDoor.Can
open Go.RowKit
open Mem
section
variable{ops:Array Oper}{Q:Exit->Act->World->Prop}{mk:List Nat}{i:Nat}{σ:List Nat}{T:Nat}{a:Act}{w:World}{dst:Option Tmp}{x y z:Operand}{ty:TypeId}{pos:String}{af:Array Edge}{gd:Option (Nat×Bool)}
def FR(e:mk.contains i=false)(d:ops[i]? =some ⟨dst,.convert 22 9 x,ty,pos,af,gd⟩)(j:Region.wanted ⟨dst,.convert 22 9 x,ty,pos,af,gd⟩ (yielded ops a.tmps)=true){n c B:Nat}{A:acN}{xs:acM}(k:a.eval x=.slice A n c)(g:Rd w B A n xs)(b:T<=B)(h:As Tryz.prog ops Q mk σ B (a.put dst (.string ⟨xs.toArray⟩)) w):As Tryz.prog ops Q mk (i::σ) T a w:=sM e d j B b _ (fun _ hb=>SS k (g.below hb)) h
def OK(g:mk.contains i=false)(e:ops[i]? =some ⟨dst,.slice 22 x (some y) none none,ty,pos,af,gd⟩)(m:Region.wanted ⟨dst,.slice 22 x (some y) none none,ty,pos,af,gd⟩ (yielded ops a.tmps)=true){n c B p:Nat}{k:IntKind}{A:acN}{xs:acM}(q:a.eval x=.slice A n c)(r:a.eval y=.int k (p:Int))(l:Rd w B A n xs)(d:p<=n)(j:n<=c)(h:∀b,Rd w B b (n-p) (xs.drop p)->As Tryz.prog ops Q mk σ T (a.put dst (.slice b (n-p) (c-p))) w):As Tryz.prog ops Q mk (i::σ) T a w:=by refine sJ g e m (v:=.slice (if c=p then A else A.map (·.add p)) (n-p) (c-p)) (fun w'=> ?_) (h _ (l.cut d j));unfold execOp;simp only[uL,vm,tK,q,r,uj,Option.map_none,T8 A n c p d k]
end
end Go.Proofs.YtccjlcadbpinfaaGreatDoor.Can
namespace Go.Proofs.YtccjlcadbpinfaaGreatDoor.Can
open Go.RowKit
inductive sk where
 |nil
 |cons (i:Nat) (p:sk)
 |fork (i:Nat) (p:sk) (j:Nat) (q:sk)
def sk.of:List Nat->sk->sk
 | [],p=>p
 |i::l,p=>.cons i (sk.of l p)
def sk.deep:sk->Nat
 | .nil=>0
 | .cons _ p=>p.deep+1
 | .fork _ p _ q=>max p.deep q.deep+1
section
variable{P:Program}{ops:Array Oper}{Q:Exit->Act->World->Prop}{mk:List Nat}
def Ak(ops:Array Oper)(mk:List Nat):sk->Array Bool->Bool
 | .nil,b=>(Region.ready .any ops b).isEmpty
 | .cons i p,b=>(if mk.contains i then Region.ready .any ops b== [i]else Region.free .any ops b i&&(Region.ready .any ops b).contains i)&&Ak ops mk p (b.setIfInBounds i true)
 | .fork i p j q,b=>Region.ready .any ops b== [i,j]&&Ak ops mk p (b.setIfInBounds i true)&&Ak ops mk q (b.setIfInBounds j true)
def yb{i:Nat}{a:Act}{w:World}{K:Act->World->Prop}{dst:Option Tmp}{j:Op}{ty:TypeId}{pos:String}{af:Array Edge}{gd:Option (Nat×Bool)}(q:ops[i]? =some ⟨dst,j,ty,pos,af,gd⟩)(h:∀k:Exit->Act->World->Prop,(∀b w',K b w'->k .normal b w')->wpList P ops k [⟨dst,j,ty,pos,af,gd⟩] a w):wpOp P ops Q i K a w:=by
 have d:=h (fun e b w'=>e=.normal/\K b w') (fun b w' p=>⟨rfl,p⟩);have t:∀c(b:Act)(w':World),¬((Exit.panic c)=.normal/\K b w'):=fun c b w' g=>by cases g.1
 have l:¬LetsOut (fun e b w'=>e=Exit.normal/\K b w'):=fun⟨b,w',g⟩=>by cases g.1
 unfold wpOp;simp only[q];unfold wpList at d;by_cases m:Region.wanted ⟨dst,j,ty,pos,af,gd⟩ (yielded ops a.tmps)=true
 ·rw[rv m]at d|-;rcases d with d|⟨_,r⟩;·exact .inl (PB (fun b w' g=>g.2) t l d)
  ·exact(l r).elim
 ·rw[ru m]at d|-;exact d.2
end
end Go.Proofs.YtccjlcadbpinfaaGreatDoor.Can
namespace Go.Proofs.YtccjlcadbpinfaaGreatDoor.Mem
open ChangeShapes WideShapes ChangeAt RowKit
def Bx(w:World)(A:acN)(g:Nat)(v:Value):Prop:=w.cell? ⟨g,0,none⟩=some v/\∀b,A=some b->b.block≠g
def Bx.cell{w:World}{A:acN}{g:Nat}{v:Value}(h:Bx w A g v):w.cell? ⟨g,0,none⟩=some v:=h.1
def Bx.lt{w:World}{A:acN}{g:Nat}{v:Value}(h:Bx w A g v):g<w.heap.size:=xy _ _ h.1
def Bx.alloc{w:World}{A:acN}{g:Nat}{v:Value}(h:Bx w A g v)(o:Obj):Bx (w.alloc o) A g v:=⟨by rw[World.cell?_alloc_lt w o _ h.lt];exact h.1,h.2⟩
def Bx.drewN{w:World}{A:acN}{g:Nat}{v:Value}(h:Bx w A g v)(k:Nat):Bx (w.drewN k) A g v:=h
def Bx.new{w:World}{base n c:Nat}{A:acN}{xs:acM}(h:Own w base A n c xs)(v:Value)(t:TypeId):Bx (w.alloc (.cells #[v] t)) A w.heap.size v:=⟨bi,fun b e=>by have:=h.block b e;omega⟩
def vj(w:World)(x:UInt8)(v:Int)(g:Nat)(b:g=w.heap.size)(d:v=(x.toNat:Int)):Rd (w.alloc (.cells #[.int .u8 v] 5)) (w.heap.size+1) (some ⟨g,0,none⟩) 1 [x]:=by rw[b];exact rd_val w x v d
section
variable{ops:Array Oper}{rest:List Oper}{o:Oper}{a:Act}{Q:Exit->Act->World->Prop}{w:World}
def T6{base n c m d B:Nat}{A A':acN}{xs ys:acM}(ty:TypeId)(D2:Own w base A n c xs)(hr:Rd w B A' m ys)(S:n+m<=140737488355328)(Dm:base<=w.heap.size)(r:Nat)(C:Value)(q:Bx w A r C):∃b c2 w',(Builtin.append_ #[22,22] ty #[.slice A n c,.slice A' m d]).run Tryz.prog w=.ok (.slice b (n+m) c2) w'/\Own w' base b (n+m) c2 (xs++ys)/\Below base w w'/\Bx w' b r C:=by
 obtain⟨M,t,K,v,L⟩:=xj zU;by_cases G:m=0;·subst G;have I:ys=[]:=rI hr.1;subst I;exact⟨A,c,w,BW sZ t v D2 ty A' d,by simpa using D2,Below.refl _ _,q⟩
 ·obtain⟨g,p,rfl,R,hc⟩:=hr.2 V;obtain⟨N,w',H,h2,h3,O,l⟩:=uR (P:=Tryz.prog) w base 22 ty 5 M (.int .u8 0) 1 1 sZ t K v L rfl bD (.slice A n c) n (cells xs) D2 ⟨g,p,none⟩ m d (cells ys) jH cV (EC ys) de V Dm;have E:∃b c2,N=.slice b (n+m) c2:=cH;obtain⟨b,c2,rfl⟩:=E;have F:=q.lt;refine⟨b,c2,w',H,by unfold Own;exact kN,?_,?_,?_⟩;·exact bQ
  ·rw[<-q.1];refine rD (w:=w) (h3.block r F fun e=> ?_);cases A with
   |none=>simp[Value.ownBlock]at e
   |some ad=>simp only[Value.ownBlock,sb]at e;exact q.2 ad rfl e.symm
  ·rintro ad rfl;rcases l with l|l
   ·cases A with
    |none=>simp[Value.ownBlock]at l
    |some D=>simp only[Value.ownBlock,sb]at l;have:=q.2 D rfl;omega
   ·simp only[Value.ownBlock,sb]at l;omega
def xI{dst:Option Tmp}{s x:Operand}{ty:TypeId}{pos:String}{af:Array Edge}{gd:Option (Nat×Bool)}(q:Region.wanted ⟨dst,.call {callee:=.builtin .append,args:= #[s,x],argTypes:= #[22,22]},ty,pos,af,gd⟩ (yielded ops a.tmps)=true){base n c m d B:Nat}{A A':acN}{xs ys:acM}(hs:a.eval s=.slice A n c)(k:Own w base A n c xs)(hx:a.eval x=.slice A' m d)(l:Rd w B A' m ys)(p:n+m<=140737488355328)(g:base<=w.heap.size){b:Nat}{e:Value}(j:Bx w A b e)(h:∀A2 c2 w',Own w' base A2 (n+m) c2 (xs++ys)->Below base w w'->Bx w' A2 b e->wpList Tryz.prog ops Q rest (a.put dst (.slice A2 (n+m) c2)) w'):wpList Tryz.prog ops Q (⟨dst,.call {callee:=.builtin .append,args:= #[s,x],argTypes:= #[22,22]},ty,pos,af,gd⟩::rest) a w:=by
 refine tj q fun K hK=> ?_
 obtain⟨A2,c2,w',Il,h2,h3,h4⟩:=T6 (w:=w) ty k l p g (d:=d) b e j;exact cu
end
