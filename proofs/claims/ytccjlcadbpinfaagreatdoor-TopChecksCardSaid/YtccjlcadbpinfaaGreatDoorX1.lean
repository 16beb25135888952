import Derived.Test.YtccjlcadbpinfaaGreatDoorX0
import Derived.Test.YtccjlcadbpinfaaGreatDoorK
import Derived.Test.YtccjlcadbpinfaaGreatDoorShelf
import Derived.BigQuiet
import Derived.Deep.QuietTactic
set_option linter.all false
set_option maxRecDepth 100000
set_option maxHeartbeats 4000000
namespace Go.Proofs.YtccjlcadbpinfaaGreatDoor.Mem
open ChangeShapes WideShapes ChangeAt RowKit
section
variable{P:Program}{f:Nat}{a:Array Value}{B:Nat}{w w':World}{g j:Nat}{v:Value}{Q:World->Prop}
def _root_.Go.RowKit.Below.drewN{a w:World}(h:Below B a w)(n:Nat):Below B a (w.drewN n):=⟨h.os,h.tape,h.output,h.size,h.block⟩
def _root_.Go.RowKit.Below.setAt{a w:World}(h:Below g a w)(i:Nat)(u:Value):Below g a (w.setCell ⟨g,i,none⟩ u):=h.setCell (p:=⟨g,i,none⟩) (rZ g) u
def _root_.Go.RowKit.Below.cl(h:Below B w w')(e:w.cell? ⟨g,j,none⟩=some v)(d:g<B):w'.cell? ⟨g,j,none⟩=some v:=(h.cell (p:=⟨g,j,none⟩) d).trans e
def sG{K:Ending->World->Prop}(h:Calls P f a w fun e w'=>e=.returned v/\Q w')(k:∀w',Q w'->K (.returned v) w'):Calls P f a w K:=h.mono fun e w' ⟨x,y⟩=>x▸k w' y
def tZ{K:Ending->World->Prop}{b:World}(h:Calls P f a w fun e w'=>e=.returned v/\Q w')(k:K (.returned v) b)(q:∀w',Q w'->b=w':=by intro _ h;first|exact h|exact h.symm):Calls P f a w K:=h.mono fun e w' ⟨x,y⟩=>x▸q w' y▸k
end
abbrev rN(a b:Nat):Addr:=⟨a,b,none⟩
def sW{d:Type}(a:d):∃r,r=a:=⟨a,rfl⟩
def _root_.Go.RowKit.Below.s1{B:Nat}{a w:World}{o:Go.Obj}(_:Below B a (w.alloc o)):(w.alloc o).heap.size=w.heap.size+1:=bA
def _root_.Go.RowKit.Below.l1{B:Nat}{a w:World}{o:Go.Obj}(_:Below B a (w.alloc o)):w.heap.size<(w.alloc o).heap.size:=bA
def _root_.Go.RowKit.Below.s2{B:Nat}{a w:World}{o p:Go.Obj}(_:Below B a ((w.alloc o).alloc p)):((w.alloc o).alloc p).heap.size=w.heap.size+2:=bA
abbrev vh(w:World)(v:Value)(e:Ending)(w':World):Prop:=e=.returned v/\afv w w'
abbrev zW(w:World)(v:Value)(e:Ending)(w':World):Prop:=e=.returned v/\w=w'
def ug{d:Sort _}{e:d->Sort _}:(a:d)->e a->e a:=fun _ h=>h
abbrev sg(a:Nat):Value:=.pointer (some ⟨a,0,none⟩)
def _root_.Go.RowKit.Below.sY{B:Nat}{a b c:World}(h:Below B a b)(d:B<=a.heap.size)(hb:afv b c):Below B a c:=h.trans (hb.mono (sn d h.size))
def _root_.Go.RowKit.Below.al{B:Nat}{a b:World}(h:Below B a b)(d:B<=a.heap.size)(o:Obj):Below B a (b.alloc o):=h.alloc (sn d h.size) o
def bc(x:UInt8):Value:=.int .u8 (x.toNat:Int)
def cells(xs:afs):List Value:=xs.map bc
def yN(xs:afs):(cells xs).length=xs.length:=tN ..
def Ko(xs ys:afs):cells (xs++ys)=cells xs++cells ys:=yD ..
def E9(xs:afs):∀u∈cells xs,u.oneCell'=true:=by intro u d;obtain⟨x,_,rfl⟩:=ti.1 d;rfl
def Rd(w:World)(B:Nat)(A:aft)(n:Nat)(xs:afs):Prop:=xs.length=n/\(0<n->∃g o,A=some ⟨g,o,none⟩/\g<B/\∀j x,xs[j]? =some x->w.cell? ⟨g,o+j,none⟩=some (.int .u8 (x.toNat:Int)))
section
variable{w w':World}{B B' n:Nat}{A:aft}{xs ys:afs}
def Rd.len(h:Rd w B A n xs):xs.length=n:=h.1
def Rd.nil(w:World)(B:Nat)(A:aft):Rd w B A 0 []:=⟨rfl,fun h=>absurd h V⟩
def Rd.at_(h:Rd w B A n xs){k:Nat}(l:k<n):∃g o x,A=some ⟨g,o,none⟩/\g<B/\xs[k]? =some x/\w.cell? ⟨g,o+k,none⟩=some (.int .u8 (x.toNat:Int)):=by obtain⟨g,o,e,hb,j⟩:=h.2 V;have d:k<xs.length:=lq;exact⟨g,o,xs[k],e,hb,rD d,j k _ (rD d)⟩
def Rd.keep(h:Rd w B A n xs)(k:∀p:Addr,p.block<B->w'.cell? p=w.cell? p):Rd w' B A n xs:=⟨h.1,fun l=>by obtain⟨g,o,e,hb,d⟩:=h.2 l;exact⟨g,o,e,hb,fun j u m=>(k _ hb).trans (d j u m)⟩⟩
def Rd.more(h:Rd w B A n xs)(k:B<=B'):Rd w B' A n xs:=⟨h.1,fun j=>by obtain⟨g,o,e,hb,d⟩:=h.2 j;exact⟨g,o,e,V,d⟩⟩
def Rd.below(h:Rd w B A n xs)(hb:Below B w w'):Rd w' B A n xs:=h.keep fun _ d=>hb.cell d
def Rd.sV(h:Rd w B A n xs)(hb:Below B' w w')(d:B<=B'):Rd w' B A n xs:=h.keep fun _ e=>hb.cell V
def Rd.drewN(h:Rd w B A n xs)(k:Nat):Rd (w.drewN k) B A n xs:=h
def Rd.drew(h:Rd w B A n xs):Rd w.drew B A n xs:=h
def Rd.alloc(h:Rd w B A n xs)(d:B<=w.heap.size)(o:Obj):Rd (w.alloc o) B A n xs:=h.keep fun p e=>World.cell?_alloc_lt w o p V
def Rd.cut(h:Rd w B A n xs){k cap:Nat}(m:k<=n)(l:n<=cap):Rd w B (if cap=k then A else A.map (·.add k)) (n-k) (xs.drop k):=by refine⟨by rw[sU,h.1],fun p=> ?_⟩;obtain⟨g,o,rfl,hb,d⟩:=h.2 V;rw[rB V];refine⟨g,o+k,by simp[yl],hb,fun j u e=> ?_⟩;rw[Cs];exact d _ u (by rw[<-e,Ar])
def Rd.upto(h:Rd w B A n xs){k:Nat}(l:k<=n):Rd w B A k (xs.take k):=by
 refine⟨by rw[zC,h.1];omega,fun m=> ?_⟩;obtain⟨g,o,rfl,hb,e⟩:=h.2 V;refine⟨g,o,rfl,hb,fun j u d=>e j u ?_⟩;rw[yn]at d;split at d;·exact d
 ·cases d
end
def Own(w:World)(base:Nat)(A:aft)(n c:Nat)(xs:afs):Prop:=w.ownsRow base 5 1 (.slice A n c) n (cells xs)
section
variable{w w':World}{base n c:Nat}{A:aft}{xs ys:afs}
def Own.len(h:Own w base A n c xs):xs.length=n:=by have:=h.1;rw[yN]at this;omega
def Own.nil(w:World)(base:Nat):Own w base none 0 0 []:=uH w base 5 1
def Own.rd(h:Own w base A n c xs):Rd w w.heap.size A n xs:=by refine⟨h.len,fun k=> ?_⟩;obtain⟨g,cap,hv,_,e⟩:=World.ownsRow.form h k;have d:A=some ⟨g,0,none⟩:=ia;subst d;refine⟨g,0,rfl,e,fun j x l=> ?_⟩;have:=World.ownsRow.cells (g:=g) h rfl j (bc x) (by simp[cells,l]);rw[yl]at this;exact this
def Own.block(h:Own w base A n c xs):∀d,A=some d->base<=d.block/\d.block<w.heap.size:=by rintro d rfl;exact World.ownsRow.lt h d.block rfl
def Own.below(h:Own w base A n c xs)(hb:afv w w'):Own w' base A n c xs:=World.ownsRow.kept h (row:=none) ⟨hb.os,hb.tape,hb.output,hb.size,fun k d _=>hb.block k d⟩ (by cases A<;>simp[Value.ownBlock])
def Own.alloc(h:Own w base A n c xs)(o:Obj):Own (w.alloc o) base A n c xs:=World.ownsRow.alloc h o
def Own.drewN(h:Own w base A n c xs)(k:Nat):Own (w.drewN k) base A n c xs:=h
def Own.drew(h:Own w base A n c xs):Own w.drew base A n c xs:=h
def Own.cap(h:Own w base A n c xs):n<=c:=dV
def Own.lit(w:World)(base:Nat)(xs:afs)(hb:base<=w.heap.size)(d:xs.length<=maxLen):Own (w.alloc (.cells (cells xs).toArray 5)) base (some ⟨w.heap.size,0,none⟩) xs.length xs.length xs:=by refine⟨by simp[yN],.inr ⟨w.heap.size,xs.length,(cells xs).toArray,rfl,hb,Ky w _,rZ _,d,by simp[yN],?_⟩⟩;rw[yo (by simp[yN])]
end
def aap(w:World)(x:UInt8):Rd (w.alloc (.cells #[.int .u8 (x.toNat:Int)] 5)) (w.heap.size+1) (some ⟨w.heap.size,0,none⟩) 1 [x]:=by
 refine⟨rfl,fun _=>⟨w.heap.size,0,rfl,V,fun j y d=> ?_⟩⟩;match j,d with
 |0,d=>simp at d;subst d;simp
def rd_val(w:World)(x:UInt8)(v:Int)(d:v=(x.toNat:Int)):Rd (w.alloc (.cells #[.int .u8 v] 5)) (w.heap.size+1) (some ⟨w.heap.size,0,none⟩) 1 [x]:=by rw[d];exact aap w x
def AH(w:World)(xs:afs):Rd (w.alloc (.cells (cells xs).toArray 5)) (w.heap.size+1) (some ⟨w.heap.size,0,none⟩) xs.length xs:=by refine⟨rfl,fun _=>⟨w.heap.size,0,rfl,V,fun j y d=> ?_⟩⟩;rw[AO _ _ _ _ _ _ (Ky w _)];simp[cells,d,bc]
def An:(Tryz.prog.info? 5).map (fun i=>(i.zero,i.size,i.bytes))=some (some (.int .u8 0),1,1):=bm
section
variable{ops:Array Oper}{rest:List Oper}{o:Oper}{a:Act}{Q:Exit->Act->World->Prop}{w:World}
section
variable{P:Program}{d t e dst:TypeId}{base n c B m:Nat}
def Cp{A:aft}{xs:afs}{t:TypeId}{i:TypeInfo}(j:P.underlying t=some (.slice 5))(h:P.info? 5=some i)(_hz:i.size=1)(l:Own w base A n c xs)(ty:TypeId)(A':aft)(d:Nat):(Builtin.append_ #[t,t] ty #[.slice A n c,.slice A' 0 d]).run P w=.ok (.slice A n c) w:=by
 rcases l.2 with⟨e,p⟩|⟨g,cap,m,e,_,_,k,_⟩;·injection e with h1 h2 h3;subst h1 h2 h3;cases A'<;>simp[Builtin.append_,Bt j,sizeOf,typeInfo,h,Builtin.lenOf,Builtin.firstCells,loadCells,loadCellsFrom]
 ·injection e with h1 h2 h3;subst h1 h3;cases A'<;>simp[Builtin.append_,Bt j,sizeOf,typeInfo,h,Builtin.lenOf,Builtin.firstCells,k,storeCells,loadCells,loadCellsFrom]
def X8{d B:Nat}{A A':aft}{xs ys:afs}(ty:TypeId)(Er:Own w base A n c xs)(hr:Rd w B A' m ys)(M:n+m<=140737488355328)(FN:base<=w.heap.size):∃e c2 w',(Builtin.append_ #[22,22] ty #[.slice A n c,.slice A' m d]).run Tryz.prog w=.ok (.slice e (n+m) c2) w'/\Own w' base e (n+m) c2 (xs++ys)/\Below base w w':=by
 obtain⟨F,l,D,q,E⟩:=xG An;by_cases t:m=0;·subst t;have C:ys=[]:=rT hr.1;subst C;exact⟨A,c,w,Cp tP l q Er ty A' d,by simpa using Er,Below.refl _ _⟩
 ·obtain⟨g,p,rfl,L,hc⟩:=hr.2 V;obtain⟨G,w',v,h2,h3,H,I⟩:=vu (P:=Tryz.prog) w base 22 ty 5 F (.int .u8 0) 1 1 tP l D q E rfl bH (.slice A n c) n (cells xs) Er ⟨g,p,none⟩ m d (cells ys) kA dn (E9 ys) dD V FN;have r:∃e c2,G=.slice e (n+m) c2:=cV;obtain⟨e,c2,rfl⟩:=r;refine⟨e,c2,w',v,by unfold Own;exact lz,?_⟩;exact bV
def zb{dst:Option Tmp}{s x:Operand}{ty:TypeId}{pos:String}{af:Array Edge}{gd:Option (Nat×Bool)}(D:Region.wanted ⟨dst,.call {callee:=.builtin .append,args:= #[s,x],argTypes:= #[22,22]},ty,pos,af,gd⟩ (yielded ops a.tmps)=true){base n c m d B:Nat}{A A':aft}{xs ys:afs}(v:a.eval s=.slice A n c)(q:Own w base A n c xs)(E:a.eval x=.slice A' m d)(r:Rd w B A' m ys)(C:n+m<=140737488355328)(p:base<=w.heap.size)(h:∀e c2 w',Own w' base e (n+m) c2 (xs++ys)->Below base w w'->wpList Tryz.prog ops Q rest (a.put dst (.slice e (n+m) c2)) w'):wpList Tryz.prog ops Q (⟨dst,.call {callee:=.builtin .append,args:= #[s,x],argTypes:= #[22,22]},ty,pos,af,gd⟩::rest) a w:=by
 refine tG D fun K l=> ?_
 obtain⟨e,c2,w',t,j,k⟩:=X8 (w:=w) ty q r C p (d:=d);unfold Oper.wp execOp;simp only[resolve,invoke,builtin,uJ,vR,ua,List.map_toArray,xB,List.map_nil,v,E,t];exact l _ _ (h e c2 w' j k)
def K9(k:P.underlying d=some (.slice e))(j:P.underlying e=some (.int .u8))(h:P.underlying dst=some .string)(A:aft)(c:Nat):(convert d dst (.slice A 0 c)).run P w=.ok (.string ⟨([]:afs).toArray⟩) w:=by
 rw[run_convert_bytes_string w _ _ e _ _ _ k j h];cases A with
 |none=>simp[Conv.bytesToString];rfl
 |some l=>simp[Conv.bytesToString,loadCells,loadCellsFrom];rfl
def Gl(xs:afs):strOfNums (xs.map fun x=>(x.toNat:Int))=⟨xs.toArray⟩:=by simp only[strOfNums,List.map_map];rw[show((fun n:Int=>UInt8.ofNat n.toNat)∘ fun x:UInt8=>(x.toNat:Int))=id from by funext x;simp,WB]
def K8{A:aft}{xs:afs}(d:Rd w B A n xs):(convert 22 9 (.slice A n c)).run Tryz.prog w=.ok (.string ⟨xs.toArray⟩) w:=by
 by_cases k:n=0;·subst k;have l:xs=[]:=rT d.1;subst l;exact K9 tP Gb xV A c
 ·obtain⟨g,p,rfl,m,j⟩:=d.2 V;have h:=run_convert_bytes_arg (P:=Tryz.prog) w 22 5 tP Gb g p n c (xs.map fun x=>(x.toNat:Int)) (by simp[d.1]) (by
   intro i q;have e:i<xs.length:=by have:=d.1;omega
   rw[j i xs[i] (rD e)];simp[List.getD,e]) 9 xV
  rw[Gl]at h;exact h
def zy{dst:Option Tmp}{x:Operand}{ty:TypeId}{pos:String}{af:Array Edge}{gd:Option (Nat×Bool)}(j:Region.wanted ⟨dst,.convert 22 9 x,ty,pos,af,gd⟩ (yielded ops a.tmps)=true){n c B:Nat}{A:aft}{xs:afs}(k:a.eval x=.slice A n c)(e:Rd w B A n xs)(h:wpList Tryz.prog ops Q rest (a.put dst (.string ⟨xs.toArray⟩)) w):wpList Tryz.prog ops Q (⟨dst,.convert 22 9 x,ty,pos,af,gd⟩::rest) a w:=by
 refine tG j fun K d=> ?_
 unfold Oper.wp execOp;simp only[uJ,vR,ua,k,K8 e];exact d _ _ h
def X9{i:TypeInfo}(ht:P.underlying t=some (.slice e))(l:P.info? e=some i)(m:i.size=1)(A:aft)(n c p:Nat)(q:p<=n)(k:IntKind):(Instr.sliceAt t (.slice A n c) (some (.int k (p:Int))) none none).run P w=.ok (.slice (if c=p then A else A.map (·.add p)) (n-p) (c-p)) w:=by have d:P.underlying t=some (.slice (P.elem t)):=jz;have j:P.elem t=e:=jz;rw[run_sliceAt_slice w t _ _ _ _ d,run_slice_l w t _ _ _ d _ _ V V,j];simp[sizeOf,typeInfo,l,m,Result.andThen,sliced]
def Vw{i:TypeInfo}(ht:P.underlying t=some (.slice e))(l:P.info? e=some i)(m:i.size=1)(A:aft)(n c p q:Nat)(v:p<=q)(C:q<=c)(k r:IntKind):(Instr.sliceAt t (.slice A n c) (some (.int k (p:Int))) (some (.int r (q:Int))) none).run P w=.ok (.slice (if c=p then A else A.map (·.add p)) (q-p) (c-p)) w:=by have d:P.underlying t=some (.slice (P.elem t)):=jz;have j:P.elem t=e:=jz;rw[run_sliceAt_slice w t _ _ _ _ d,run_slice_lh w t _ _ _ d _ _ _ _ V V V,j];simp[sizeOf,typeInfo,l,m,Result.andThen,sliced]
def Vx(A:aft)(n c p:Nat)(e:p<=n)(k:IntKind):(Instr.sliceAt 22 (.slice A n c) (some (.int k (p:Int))) none none).run Tryz.prog w=.ok (.slice (if c=p then A else A.map (·.add p)) (n-p) (c-p)) w:=by obtain⟨m,d,j,h,l⟩:=xG An;exact X9 tP d h A n c p e k
def Sx(A:aft)(n c p q:Nat)(h:p<=q)(j:q<=c)(k d:IntKind):(Instr.sliceAt 22 (.slice A n c) (some (.int k (p:Int))) (some (.int d (q:Int))) none).run Tryz.prog w=.ok (.slice (if c=p then A else A.map (·.add p)) (q-p) (c-p)) w:=by obtain⟨t,e,m,l,r⟩:=xG An;exact Vw tP e l A n c p q h j k d
end
end
abbrev jC(k i:Int)(t:ByteArray)(A:aft)(n c:Nat)(B:aft)(m d:Nat):Go.Obj:=.cells #[.int .i64 k,.int .i64 i,.string t,.slice A n c,.slice B m d] 60
abbrev jA(k i:Int)(t:ByteArray)(A:aft)(n c:Nat)(B:aft)(m d:Nat):Value:=.agg #[.int .i64 k,.int .i64 i,.string t,.slice A n c,.slice B m d]
abbrev jZ:Go.Obj:=.cells #[.int .i64 0,.int .i64 0,.string ⟨#[]⟩,.slice none 0 0,.slice none 0 0] 60
abbrev sC(A:aft)(n c:Nat)(r:Int):Go.Obj:=.cells #[.slice A n c,.int .i64 r] 32
abbrev wC(k n:Int)(t:ByteArray)(a b:Int):Go.Obj:=.cells #[.int .i64 k,.int .i64 n,.string t,.int .i64 a,.int .i64 b] 117
abbrev wZ:Go.Obj:=.cells #[.int .i64 0,.int .i64 0,.string ⟨#[]⟩,.int .i64 0,.int .i64 0] 117
end Go.Proofs.YtccjlcadbpinfaaGreatDoor.Mem
namespace Go.Proofs.YtccjlcadbpinfaaGreatDoor.Tp
open ChangeShapes WideShapes ChangeAt RowKit
open Num Mem
abbrev wA:Value:=.agg #[.string ⟨#[]⟩,.string ⟨#[110,117,108,108]⟩,.string ⟨#[98,111,111,108,101,97,110]⟩,.string ⟨#[105,110,116]⟩,.string ⟨#[108,111,110,103]⟩,.string ⟨#[102,108,111,97,116]⟩,.string ⟨#[100,111,117,98,108,101]⟩,.string ⟨#[98,121,116,101,115]⟩,.string ⟨#[115,116,114,105,110,103]⟩,.string ⟨#[114,101,99,111,114,100]⟩,.string ⟨#[101,110,117,109]⟩,.string ⟨#[97,114,114,97,121]⟩,.string ⟨#[109,97,112]⟩,.string ⟨#[]⟩,.string ⟨#[102,105,120,101,100]⟩]
def IT(c:UInt8):Bool:=decide ((97<=c.toNat/\c.toNat<=122)\/(65<=c.toNat/\c.toNat<=90)\/c.toNat=95)
def vS(c:UInt8):Bool:=decide (48<=c.toNat/\c.toNat<=57)
def Jy(c:UInt8):Bool:=IT c||vS c
def yY:afs->Bool
 | []=>false
 |c::r=>IT c&&r.all Jy
def OH(c:UInt8)(w:World):Calls Tryz.prog 146 #[.int .u8 (c.toNat:Int)] w (zW w (.bool (IT c))):=by unfold IT;go_enter Tryz.func146,Tryz.ntmps146;exact dw
def Ki(l:afs)(j:Nat)(h:j<(⟨l.toArray⟩:ByteArray).size):(⟨l.toArray⟩:ByteArray)[j]'h=l[j]'(by simpa[ByteArray.size]using h):=by show(l.toArray)[j]'_=_;simp
def Gj(l:afs)(j:Nat):Bool:=match l[j]? with|none=>true|some c=>IT c||(j !=0&&vS c)
def MY(l:afs):yY l=(l != []&&decide (∀j,j<l.length->Gj l j=true)):=by
 cases l with
 |nil=>rfl
 |cons c r=>
  rw[Aj];simp only[yY,rO,wG,sd,rP];constructor
  ·rintro⟨p,q⟩;refine⟨bA,fun j e=> ?_⟩;cases j with
   |zero=>simp[Gj,p]
   |succ j=>have k:j<r.length:=V;have:=q r[j] (sj k);simp only[Jy,CL]at this;simp[Gj,k];rcases this with h|h<;>simp[h]
  ·rintro⟨_,h⟩;have m:=h 0 V;refine⟨by simpa[Gj]using m,fun d t=> ?_⟩;obtain⟨j,e,rfl⟩:=vx t;have:=h (j+1) V;simpa[Gj,e,Jy]using this
def DV(l:afs)(a1:l.length<=1000000000)(w:World):Calls Tryz.prog 91 #[.string ⟨l.toArray⟩] w (zW w (.bool (yY l))):=by
 have C:=MY l;obtain⟨R,p⟩:=sW (yY l);rw[<-p]at C|-;have G:=rz C;clear C p;go_enter Tryz.func91,Tryz.ntmps91;go_wp2_with fail;go_loop [3,6] (fun _ i=>∃j:Nat,i=.int .i64 j/\j<=l.length/\∀k,k<j->Gj l k=true) (fun _ i=>l.length-(intOf i).toNat);case atStart=>exact⟨0,rfl,V,V⟩
 case
  round=>
   obtain⟨j,rfl,Y,t⟩:=hrel;have F:=rz t;clear t;by_cases h:j<l.length
   ·have Z:(j:Int)<l.length:=V;have W:=Ki l j (by simpa[ByteArray.size]using h);have v:Gj l j=(IT l[j]||(j !=0&&vS l[j])):=by simp[Gj,h]
    generalize l[j]=c at W v;have a2:=c.toNat_lt;have m:=rz v;clear v;go_wp2_with fail;refine(OH c w).mono ?_;rintro e w' ⟨rfl,rfl⟩;have H:Gj l j=true->∀k,k<j+1->Gj l k=true:=fun h k t=>
     by
      rcases tE k j with I|I;·exact F.out k I
      ·obtain rfl:k=j:=V;exact h
    have bad:Gj l j=false->R=false:=fun h=>by rw[G.out,IE];right;simp only[xY];intro X;have:=X j V;rw[h]at this;cases this
    have E:=rz H;have D:=rz bad;clear H bad;by_cases q:IT c=true
    ·go_wp2_with fail;go_round;case rel=>exact⟨j+1,bA,V,E.out (by rw[m.out,q];rfl)⟩
     case measure=>simp[intOf];omega
    ·have r:IT c=false:=by simpa using q
     clear q;rcases Nat.eq_zero_or_pos j with L|L;·subst L;obtain rfl:=D.out (by rw[m.out,r];rfl);exact bI
     ·have a0:((j:Int)==0)=false:=by simp;omega
      by_cases d:vS c=true
      ·have M:¬(c.toNat:Int)<48:=by simp[vS]at d;omega
       have U:¬(57:Int)<(c.toNat:Int):=by simp[vS]at d;omega
       have N:=d;have S:=rz N;clear d N;go_wp2_with fail;go_round;case rel=>exact⟨j+1,bA,V,E.out (by rw[m.out,r,S.out];simp;omega)⟩
       case measure=>simp[intOf];omega
      ·have O:vS c=false:=by simpa using d
       obtain rfl:=D.out (by rw[m.out,r,O];simp);rcases(show(c.toNat:Int)<48\/(¬(c.toNat:Int)<48/\(57:Int)<(c.toNat:Int))by simp[vS]at d;omega)with M|⟨M,U⟩;all_goals clear d O;go_wp2_with fail;go_ret;exact⟨rfl,rfl⟩
   ·obtain rfl:j=l.length:=V;have p:R= !l.isEmpty:=by
     rw[G.out];have:decide (∀j,j<l.length->Gj l j=true)=true:=by simpa using F.out
     rw[this,xA];cases l<;>rfl
    subst p;clear Y;exact bI
def xj(l:afs):Bool:=decide (l.length<=100)&&yY l
def Au(l:afs)(k:l.length<=1000000000)(w:World):Calls Tryz.prog 129 #[.string ⟨l.toArray⟩] w (zW w (.bool (xj l))):=by
 unfold xj;by_cases h:l.length<=100;·have d:decide (l.length<=100)=true:=jg;rw[d,sk];have j:(l.length:Int)<=100:=V;go_enter GW,Tryz.ntmps129;go_wp2_with fail;refine(DV l k w).mono ?_;rintro e w' ⟨rfl,rfl⟩;exact bI
 ·have d:decide (l.length<=100)=false:=jg;rw[d,tO];have j:¬(l.length:Int)<=100:=V;go_enter GW,Tryz.ntmps129;exact bI
def w0:Bool->afs->Bool
 |st,[]=> !st
 |true,c::r=>IT c&&w0 false r
 |false,c::r=>if c=46 then w0 true r else Jy c&&w0 false r
def vL(l:afs):Bool:=decide (l.length<=100)&&w0 true l
def HS:IT 46=false:=bH
def Mk:∀(l r:afs),46∉l->w0 false (l++46::r)=(l.all Jy&&w0 true r)
 | [],r,_=>by simp[w0]
 |c::l,r,h=>
 by
  simp only[sD,U5]at h;have d:¬c=46:=fun e=>h.1 e.symm
  rw[si];simp only[w0,rB d,Mk l r h.2,EO,Bool.and_assoc]
def Jl:∀(l:afs),46∉l->w0 false l=l.all Jy
 | [],_=>rfl
 |c::l,h=>
 by
  simp only[sD,U5]at h;have d:¬c=46:=fun e=>h.1 e.symm
  simp only[w0,rB d,Jl l h.2,EO]
def Rq(l r:afs)(h:46∉l):w0 true (l++46::r)=(yY l&&w0 true r):=by
 cases l with
 |nil=>simp[w0,yY,HS]
 |cons c l=>simp only[sD,U5]at h;rw[si];simp only[w0,yY,Mk l r h.2,Bool.and_assoc]
def Ce(l:afs)(h:46∉l):w0 true l=yY l:=by
 cases l with
 |nil=>rfl
 |cons c l=>simp only[sD,U5]at h;simp only[w0,yY,Jl l h.2]
def HZ{l:afs}{c:UInt8}(h:∀k:Nat,l[k]?≠some c):c∉l:=fun d=>by obtain⟨k,e⟩:=CA d;exact h k e
def W9(l:afs):(46∉l/\Lib.cut l [46]=(l,[],false))\/(∃a b,l=a++46::b/\46∉a/\Lib.cut l [46]=(a,b,true)):=by
 unfold Lib.cut;rw[Lib.index_one];have r:=Lib.indexByte_ge l 46;by_cases h:Lib.indexByte l 46= -1;·left;rw[h];exact⟨HZ (Lib.indexByte_none h),rfl⟩
 ·right;obtain⟨o,d⟩:=uR (show 0<=Lib.indexByte l 46 from V);obtain⟨e,j⟩:=Lib.indexByte_some d;obtain⟨q,m⟩:=rQ.1 e;refine⟨l.take o,l.drop (o+1),?_,HZ fun k=> ?_,?_⟩;·rw[<-m,<-rM q,II]
  ·rw[yn];split;·rename_i p;exact j k p
   ·simp
  ·rw[d,rG V];simp
def ux:List afs:=[[],[110,117,108,108],[98,111,111,108,101,97,110],[105,110,116],[108,111,110,103],[102,108,111,97,116],[100,111,117,98,108,101],[98,121,116,101,115],[115,116,114,105,110,103],[114,101,99,111,114,100],[101,110,117,109],[97,114,114,97,121],[109,97,112],[],[102,105,120,101,100]]
def uI(w:World):Prop:=(∃m,w.cell? (rN 1 0)=some (.int .i64 m))/\∀i l,ux[i]? =some l->w.cell? (rN 0 i)=some (.string ⟨l.toArray⟩)
def uI.below{w w':World}(h:uI w)(hb:afv w w'):uI w':=by obtain⟨⟨m,e⟩,j⟩:=h;exact⟨⟨m,(hb.cell (xW _ _ e)).trans e⟩,fun i l d=>(hb.cell (xW _ _ (j i l d))).trans (j i l d)⟩
def VG:Value->Nat| .string b=>b.size|_=>0
def vj(l:afs):(⟨l.toArray⟩:ByteArray).size=l.length:=by simp[ByteArray.size]
def Bw(l:afs)(M:l.length<=1000000000)(w:World)(v:uI w):Calls Tryz.prog 46 #[.string ⟨l.toArray⟩] w (vh w (.bool (vL l))):=by
 unfold vL;have F:=rz v;by_cases h:l.length<=100
 ·have t:decide (l.length<=100)=true:=jg;rw[t,sk];have H:¬(100:Int)<l.length:=V;obtain⟨R,C⟩:=sW (w0 true l);rw[<-C];have G:=rz C;clear h t C v;go_enter WC,Tryz.ntmps46;go_wp2_with fail;go_loopw [0] (fun s wr=>∃r:afs,s=.string ⟨r.toArray⟩/\r.length<=l.length/\R=w0 true r/\afv w wr) (fun s _=>VG s);case atStart=>exact⟨l,rfl,rZ _,G.out,Below.refl _ _⟩
  case
   round=>
    obtain⟨r,rfl,I,d,Ac⟩:=hrel;obtain⟨⟨m,D⟩,_⟩:=F.out.below Ac;have j:=Tryz.strings_Cut ⟨r.toArray⟩ ⟨[46].toArray⟩ m wr (by rw[vj];omega) D;simp only[]at j;rcases W9 r with⟨E,p⟩|⟨a,b,rfl,E,p⟩
    ·rw[p]at j;rw[Ce r E]at d;have k:=rz d;clear d p D;go_wp2_with fail;refine j.mono ?_;rintro e w1 ⟨rfl,q,rfl⟩;go_wp2_with fail;refine(DV r V _).mono ?_;rintro e L ⟨rfl,rfl⟩;rw[<-k.out];clear j;cases R;·exact iP
     ·exact iP
    ·rw[p]at j;rw[Rq a b E]at d;rw[rL,rP]at I;have k:=rz d;clear d p D;go_wp2_with fail;refine j.mono ?_;rintro e w1 ⟨rfl,q,rfl⟩;go_wp2_with fail;refine(DV a V _).mono ?_;rintro e L ⟨rfl,rfl⟩;have d:=k.out;clear j k;generalize yY a=S at*;cases S;·rw[tO]at d;subst d;exact iP
     ·rw[sk]at d;have k:=rz d;clear d;go_wp2_with fail;go_roundw;case rel=>exact⟨b,rfl,V,k.out,Ac.drewN q⟩
      case measure=>simp[VG,vj]<;>omega
 ·have t:decide (l.length<=100)=false:=jg;rw[t,tO];have H:(100:Int)<l.length:=V;clear h t v;go_enter WC,Tryz.ntmps46;exact fa
def sO(l:afs):afs:=((l.reverse.dropWhile (·!=46)).drop 1).reverse
def vU(l:afs):afs:=(l.reverse.takeWhile (·!=46)).reverse
def VO:∀(l r:afs),46∉l->(l++46::r).takeWhile (·!=46)=l/\(l++46::r).dropWhile (·!=46)=46::r
 | [],r,_=>bA
 |c::l,r,h=>
 by
  simp only[sD,U5]at h;have d:(c !=46)=true:=by simp;exact fun e=>h.1 e.symm
  have:=VO l r h.2;simp[d,this]
def QE:∀(l:afs),46∉l->l.takeWhile (·!=46)=l/\l.dropWhile (·!=46)=[]
 | [],_=>bA
 |c::l,h=>
 by
  simp only[sD,U5]at h;have d:(c !=46)=true:=by simp;exact fun e=>h.1 e.symm
  have:=QE l h.2;simp[d,this]
def Fx(a b:afs)(h:46∉b):sO (a++46::b)=a/\vU (a++46::b)=b:=by have d:46∉b.reverse:=eK;have e:(a++46::b).reverse=b.reverse++46::a.reverse:=bA;obtain⟨j,k⟩:=VO b.reverse a.reverse d;unfold sO vU;rw[e,j,k];simp
def Cq(l:afs)(h:46∉l):sO l=[]/\vU l=l:=by obtain⟨d,e⟩:=QE l.reverse eK;unfold sO vU;rw[d,e];simp
def Mz(l:afs):(46∉l/\Lib.lastIndexByte ⟨l.toArray⟩ 46= -1)\/(∃a b,l=a++46::b/\46∉b/\Lib.lastIndexByte ⟨l.toArray⟩ 46=(a.length:Nat)):=by
 have key:∀j,j<l.length->(((⟨l.toArray⟩:ByteArray).data[j]!).toNat:Int)=46->l[j]? =some 46:=fun j hj h=>by have e:(⟨l.toArray⟩:ByteArray).data[j]! =l[j]:=jU;rw[e]at h;rw[rD hj];congr 1;apply tU.1;have:(46:UInt8).toNat=46:=bH;omega
 have t:∀j,j<l.length->(((⟨l.toArray⟩:ByteArray).data[j]!).toNat:Int)≠46->l[j]?≠some 46:=fun j hj h m=>h (by have e:(⟨l.toArray⟩:ByteArray).data[j]! =l[j]:=jU;rw[e];rw[rD hj]at m;injection m with m;rw[m];decide)
 rcases Lib.lastIndexByte_spec ⟨l.toArray⟩ 46 with⟨p,q⟩|⟨i,p,q,v,r⟩
 ·left;refine⟨HZ fun k=> ?_,p⟩;by_cases d:k<l.length;·exact t k d (q k (by rw[vj];exact d))
  ·rw[tu V];simp
 ·right;rw[vj]at p r;have C:=key i p v;obtain⟨E,D⟩:=rQ.1 C;refine⟨l.take i,l.drop (i+1),?_,HZ fun k=> ?_,?_⟩;·rw[<-D,<-rM E,II]
  ·rw[Ar];by_cases d:i+1+k<l.length;·exact t _ d (r _ V d)
   ·rw[tu V];simp
  ·rw[q,zC];congr 1;omega
def Ld(l:afs)(i j:Nat):(⟨l.toArray⟩:ByteArray).extract i j=⟨((l.drop i).take (j-i)).toArray⟩:=by apply ByteArray.ext;simp[ByteArray.data_extract,List.extract_eq_drop_take]
def BA(l:afs)(k:l.length<=1000000000)(w:World):Calls Tryz.prog 113 #[.string ⟨l.toArray⟩] w (zW w (.string ⟨(sO l).toArray⟩)):=by
 have d:=Tryz.strings_LastIndexByte ⟨l.toArray⟩ 46 (by rw[vj];omega) w;rcases Mz l with⟨h,j⟩|⟨a,b,rfl,h,j⟩;·rw[j]at d;rw[(Cq l h).1];go_enter Tryz.func113,Tryz.ntmps113;go_wp2_with fail;refine d.mono ?_;rintro e w1 ⟨rfl,rfl⟩;go_wp2_with fail;go_ret;exact⟨by simp[Ld];try omega,rfl⟩
 ·rw[j]at d;rw[(Fx a b h).1];go_enter Tryz.func113,Tryz.ntmps113;go_wp2_with fail;refine d.mono ?_;rintro e w1 ⟨rfl,rfl⟩;go_wp2_with fail;go_ret;exact⟨by simp[Ld],rfl⟩
def GR(l:afs)(k:l.length<=1000000000)(w:World):Calls Tryz.prog 151 #[.string ⟨l.toArray⟩] w (zW w (.string ⟨(vU l).toArray⟩)):=by
 have hc:=Tryz.strings_LastIndexByte ⟨l.toArray⟩ 46 (by rw[vj];omega) w;rcases Mz l with⟨d,j⟩|⟨a,b,rfl,d,j⟩;·rw[j]at hc;rw[(Cq l d).2];exact nG
 ·rw[j]at hc;rw[(Fx a b d).2];rw[rL,rP]at k;exact nG
def L9(l m:afs):(⟨l.toArray⟩:ByteArray)++⟨m.toArray⟩=⟨(l++m).toArray⟩:=by apply ByteArray.ext;simp
def yS(d name:afs):Option afs:=if 46∈name then some name else if xj name=true then(if d=[]then some name else some (d++46::name))else none
def vT(d name:afs):Option afs:=match yS d name with|none=>none|some n=>if vL n=true then some n else none
def Qc(o:Option afs):Value:=match o with|none=>.tuple #[.string ⟨#[]⟩,.bool false]|some n=>.tuple #[.string ⟨n.toArray⟩,.bool true]
def ZX(l:afs):(46∈l->0<=Lib.indexByte l 46)/\(46∉l->Lib.indexByte l 46<0):=by
 have j:=Lib.indexByte_ge l 46;constructor
 ·intro h;by_cases d:Lib.indexByte l 46= -1;·exact absurd h (HZ (Lib.indexByte_none d))
  ·omega
 ·intro h;by_cases d:0<=Lib.indexByte l 46;·obtain⟨o,e⟩:=uR d;exact absurd (rU (Lib.indexByte_some e).1) h
  ·omega
def D6(s n:afs)(G:s.length<=400000000)(E:n.length<=400000000)(w:World)(r:uI w):Calls Tryz.prog 159 #[.string ⟨s.toArray⟩,.string ⟨n.toArray⟩] w fun e w'=>vh w (Qc (vT s n)) e w':=by
 have hi:=Tryz.strings_IndexByte ⟨n.toArray⟩ 46 w;have m:=fun l h=>Bw l h w r
 have p:=ZX n;simp only[show(46:Int).toNat.toUInt8=46 from bH]at hi;generalize Lib.indexByte n 46=v at hi p;unfold vT yS;by_cases d:46∈n;·rw[rG d];have q:=p.1 d;have hf:=m n V;simp only[];generalize vL n=F at*;go_enter Tryz.func159,Tryz.ntmps159;go_wp2_with fail;refine hi.mono ?_;exact dk
 ·rw[rB d];have q:=p.2 d;have XD:=Au n V w;by_cases j:xj n=true
  ·rw[rG j];rw[j]at XD;by_cases k:s=[];·rw[rG k];have hf:=m n V;subst k;simp only[];generalize vL n=F at*;exact nU
   ·rw[rB k];have hf:=m (s++46::n) (by simp;omega);simp only[];generalize vL (s++46::n)=F at*;have D:s.isEmpty=false:=by cases s<;>simp_all
    have C:(⟨s.toArray⟩:ByteArray)++⟨#[46]⟩++⟨n.toArray⟩=⟨(s++46::n).toArray⟩:=by rw[show(⟨#[46]⟩:ByteArray)=⟨[46].toArray⟩from rfl,L9,L9];simp
    exact nU
  ·rw[rB j];have t:xj n=false:=by simpa using j
   rw[t]at XD;go_enter Tryz.func159,Tryz.ntmps159;go_wp2_with fail;refine hi.mono ?_;rintro e w1 ⟨rfl,rfl⟩;go_wp2_with fail;refine XD.mono ?_;rintro e w1 ⟨rfl,rfl⟩;go_wp2_with fail;go_ret2;exact oP
def yW(name h:afs)(e:Bool)(d:afs):Option afs:=if e=true then vT h name else vT d name
def LQ(n s:afs)(g:Bool)(a:afs)(d:n.length<=400000000)(k:s.length<=400000000)(j:a.length<=400000000)(w:World)(hG:uI w):Calls Tryz.prog 209 #[.string ⟨n.toArray⟩,.string ⟨s.toArray⟩,.bool g,.string ⟨a.toArray⟩] w (vh w (Qc (yW n s g a))):=by
 unfold yW;cases g;·have hj:=D6 a n j d w hG;rw[rB bA];generalize vT a n=J at*;exact ex
 ·have hj:=D6 s n k d w hG;rw[rG rfl];generalize vT s n=J at*;exact ex
def tI(k:Int):afs:=if k<0\/15<=k then []else ux.getD k.toNat []
def xf(l:afs):Nat->List afs->Nat
 |_,[]=>0
 |k,v::r=>if v=l/\l≠ []then k else xf l (k+1) r
def wJ(l:afs):Nat:=xf l 0 ux
def BC(k:Int)(w:World)(l:uI w):Calls Tryz.prog 68 #[.int .i64 k] w (zW w (.string ⟨(tI k).toArray⟩)):=by
 unfold tI;rcases(show k<0\/(¬k<0/\15<=k)\/(0<=k/\k<15)from V)with h|⟨h,d⟩|⟨h,d⟩;·rw[rG (.inl h)];exact pZ
 ·rw[rG (.inr d)];exact pZ
 ·rw[rB V];obtain⟨i,rfl⟩:=uR h;have j:i<ux.length:=by simp[ux];omega
  have p:=l.2 i ux[i] (rD j);have e:ux.getD ((i:Int)).toNat []=ux[i]:=by simp[List.getD,j]
  rw[e];generalize ux[i]=L at*;have m:¬(15:Int)<=i:=V;exact pZ
def D7(l:afs)(w:World)(e:uI w):Calls Tryz.prog 125 #[.string ⟨l.toArray⟩] w (zW w (.int .i64 (wJ l))):=by
 have c0:=e.2 0 _ rfl;have c1:=e.2 1 _ rfl;have c2:=e.2 2 _ rfl;have D:=e.2 3 _ rfl;have E:=e.2 4 _ rfl;have F:=e.2 5 _ rfl;have G:=e.2 6 _ rfl;have H:=e.2 7 _ rfl;have I:=e.2 8 _ rfl;have L:=e.2 9 _ rfl;have q:=e.2 10 _ rfl;have r:=e.2 11 _ rfl;have t:=e.2 12 _ rfl;have v:=e.2 13 _ rfl;have C:=e.2 14 _ rfl;have N:∀w,(Instr.index 207 (wA) (.int .i64 0)).run Tryz.prog w=.ok (.string ⟨#[]⟩) w:=fun _=>bm
 have O:∀w,(Instr.index 207 (wA) (.int .i64 1)).run Tryz.prog w=.ok (.string ⟨#[110,117,108,108]⟩) w:=fun _=>bm
 have Z:∀w,(Instr.index 207 (wA) (.int .i64 2)).run Tryz.prog w=.ok (.string ⟨#[98,111,111,108,101,97,110]⟩) w:=fun _=>bm
 have a0:∀w,(Instr.index 207 (wA) (.int .i64 3)).run Tryz.prog w=.ok (.string ⟨#[105,110,116]⟩) w:=fun _=>bm
 have a1:∀w,(Instr.index 207 (wA) (.int .i64 4)).run Tryz.prog w=.ok (.string ⟨#[108,111,110,103]⟩) w:=fun _=>bm
 have a2:∀w,(Instr.index 207 (wA) (.int .i64 5)).run Tryz.prog w=.ok (.string ⟨#[102,108,111,97,116]⟩) w:=fun _=>bm
 have a3:∀w,(Instr.index 207 (wA) (.int .i64 6)).run Tryz.prog w=.ok (.string ⟨#[100,111,117,98,108,101]⟩) w:=fun _=>bm
 have a4:∀w,(Instr.index 207 (wA) (.int .i64 7)).run Tryz.prog w=.ok (.string ⟨#[98,121,116,101,115]⟩) w:=fun _=>bm
 have a5:∀w,(Instr.index 207 (wA) (.int .i64 8)).run Tryz.prog w=.ok (.string ⟨#[115,116,114,105,110,103]⟩) w:=fun _=>bm
 have a6:∀w,(Instr.index 207 (wA) (.int .i64 9)).run Tryz.prog w=.ok (.string ⟨#[114,101,99,111,114,100]⟩) w:=fun _=>bm
 have S:∀w,(Instr.index 207 (wA) (.int .i64 10)).run Tryz.prog w=.ok (.string ⟨#[101,110,117,109]⟩) w:=fun _=>bm
 have U:∀w,(Instr.index 207 (wA) (.int .i64 11)).run Tryz.prog w=.ok (.string ⟨#[97,114,114,97,121]⟩) w:=fun _=>bm
 have W:∀w,(Instr.index 207 (wA) (.int .i64 12)).run Tryz.prog w=.ok (.string ⟨#[109,97,112]⟩) w:=fun _=>bm
 have X:∀w,(Instr.index 207 (wA) (.int .i64 13)).run Tryz.prog w=.ok (.string ⟨#[]⟩) w:=fun _=>bm
 have Y:∀w,(Instr.index 207 (wA) (.int .i64 14)).run Tryz.prog w=.ok (.string ⟨#[102,105,120,101,100]⟩) w:=fun _=>bm
 obtain⟨R,k⟩:=sW (wJ l);rw[<-k];have p:=rz k;clear k e;go_enter Tryz.func125,Tryz.ntmps125;go_wp2_with fail;go_loop [3,4,6] (fun _ _ i=>∃j:Nat,i=.int .i64 j/\j<=15/\R=xf l j (ux.drop j)) (fun _ _ i=>15-(intOf i).toNat);case atStart=>exact⟨0,rfl,V,p.out⟩
 case
  round=>
   obtain⟨j,rfl,M,m⟩:=hrel;have d:=rz m;clear m;rcases(show j=0\/j=1\/j=2\/j=3\/j=4\/j=5\/j=6\/j=7\/j=8\/j=9\/j=10\/j=11\/j=12\/j=13\/j=14\/j=15 from V)with rfl|rfl|rfl|rfl|rfl|rfl|rfl|rfl|rfl|rfl|rfl|rfl|rfl|rfl|rfl|rfl
   ·have h:R=if []=l/\l≠ []then 0 else xf l 1 (ux.drop 1):=d.out;clear d;rw[rB (fun h=>h.2 h.1.symm)]at h;have AQ:=rz h;clear h;by_cases he:l=[];·subst he;exact nP
    ·exact nP
   ·have h:R=if [110,117,108,108]=l/\l≠ []then 1 else xf l 2 (ux.drop 2):=d.out;clear d;by_cases he:[110,117,108,108]=l;·exact mi
    ·rw[rB (fun h=>he h.1)]at h;have AQ:=rz h;clear h;go_wp2_with fail;refine⟨?_,dZ⟩;first|exact⟨2,by simp,V,AQ.out⟩|exact⟨_,_,_,_,⟨2,rfl,V,AQ.out⟩,rfl,rfl,rfl,rfl⟩
   ·have h:R=if [98,111,111,108,101,97,110]=l/\l≠ []then 2 else xf l 3 (ux.drop 3):=d.out;clear d;by_cases he:[98,111,111,108,101,97,110]=l;·exact mi
    ·rw[rB (fun h=>he h.1)]at h;have AQ:=rz h;clear h;go_wp2_with fail;refine⟨?_,dZ⟩;first|exact⟨3,by simp,V,AQ.out⟩|exact⟨_,_,_,_,⟨3,rfl,V,AQ.out⟩,rfl,rfl,rfl,rfl⟩
   ·have h:R=if [105,110,116]=l/\l≠ []then 3 else xf l 4 (ux.drop 4):=d.out;clear d;by_cases he:[105,110,116]=l;·exact mi
    ·rw[rB (fun h=>he h.1)]at h;have AQ:=rz h;clear h;go_wp2_with fail;refine⟨?_,dZ⟩;first|exact⟨4,by simp,V,AQ.out⟩|exact⟨_,_,_,_,⟨4,rfl,V,AQ.out⟩,rfl,rfl,rfl,rfl⟩
   ·have h:R=if [108,111,110,103]=l/\l≠ []then 4 else xf l 5 (ux.drop 5):=d.out;clear d;by_cases he:[108,111,110,103]=l;·exact mi
    ·rw[rB (fun h=>he h.1)]at h;have AQ:=rz h;clear h;go_wp2_with fail;refine⟨?_,dZ⟩;first|exact⟨5,by simp,V,AQ.out⟩|exact⟨_,_,_,_,⟨5,rfl,V,AQ.out⟩,rfl,rfl,rfl,rfl⟩
   ·have h:R=if [102,108,111,97,116]=l/\l≠ []then 5 else xf l 6 (ux.drop 6):=d.out;clear d;by_cases he:[102,108,111,97,116]=l;·exact mi
    ·rw[rB (fun h=>he h.1)]at h;have AQ:=rz h;clear h;go_wp2_with fail;refine⟨?_,dZ⟩;first|exact⟨6,by simp,V,AQ.out⟩|exact⟨_,_,_,_,⟨6,rfl,V,AQ.out⟩,rfl,rfl,rfl,rfl⟩
   ·have h:R=if [100,111,117,98,108,101]=l/\l≠ []then 6 else xf l 7 (ux.drop 7):=d.out;clear d;by_cases he:[100,111,117,98,108,101]=l;·exact mi
    ·rw[rB (fun h=>he h.1)]at h;have AQ:=rz h;clear h;go_wp2_with fail;refine⟨?_,dZ⟩;first|exact⟨7,by simp,V,AQ.out⟩|exact⟨_,_,_,_,⟨7,rfl,V,AQ.out⟩,rfl,rfl,rfl,rfl⟩
   ·have h:R=if [98,121,116,101,115]=l/\l≠ []then 7 else xf l 8 (ux.drop 8):=d.out;clear d;by_cases he:[98,121,116,101,115]=l;·exact mi
    ·rw[rB (fun h=>he h.1)]at h;have AQ:=rz h;clear h;go_wp2_with fail;refine⟨?_,dZ⟩;first|exact⟨8,by simp,V,AQ.out⟩|exact⟨_,_,_,_,⟨8,rfl,V,AQ.out⟩,rfl,rfl,rfl,rfl⟩
   ·have h:R=if [115,116,114,105,110,103]=l/\l≠ []then 8 else xf l 9 (ux.drop 9):=d.out;clear d;by_cases he:[115,116,114,105,110,103]=l;·exact mi
    ·rw[rB (fun h=>he h.1)]at h;have AQ:=rz h;clear h;go_wp2_with fail;refine⟨?_,dZ⟩;first|exact⟨9,by simp,V,AQ.out⟩|exact⟨_,_,_,_,⟨9,rfl,V,AQ.out⟩,rfl,rfl,rfl,rfl⟩
   ·have h:R=if [114,101,99,111,114,100]=l/\l≠ []then 9 else xf l 10 (ux.drop 10):=d.out;clear d;by_cases he:[114,101,99,111,114,100]=l;·exact mi
    ·rw[rB (fun h=>he h.1)]at h;have AQ:=rz h;clear h;go_wp2_with fail;refine⟨?_,dZ⟩;first|exact⟨10,by simp,V,AQ.out⟩|exact⟨_,_,_,_,⟨10,rfl,V,AQ.out⟩,rfl,rfl,rfl,rfl⟩
   ·have h:R=if [101,110,117,109]=l/\l≠ []then 10 else xf l 11 (ux.drop 11):=d.out;clear d;by_cases he:[101,110,117,109]=l;·exact mi
    ·rw[rB (fun h=>he h.1)]at h;have AQ:=rz h;clear h;go_wp2_with fail;refine⟨?_,dZ⟩;first|exact⟨11,by simp,V,AQ.out⟩|exact⟨_,_,_,_,⟨11,rfl,V,AQ.out⟩,rfl,rfl,rfl,rfl⟩
   ·have h:R=if [97,114,114,97,121]=l/\l≠ []then 11 else xf l 12 (ux.drop 12):=d.out;clear d;by_cases he:[97,114,114,97,121]=l;·exact mi
    ·rw[rB (fun h=>he h.1)]at h;have AQ:=rz h;clear h;go_wp2_with fail;refine⟨?_,dZ⟩;first|exact⟨12,by simp,V,AQ.out⟩|exact⟨_,_,_,_,⟨12,rfl,V,AQ.out⟩,rfl,rfl,rfl,rfl⟩
   ·have h:R=if [109,97,112]=l/\l≠ []then 12 else xf l 13 (ux.drop 13):=d.out;clear d;by_cases he:[109,97,112]=l;·exact mi
    ·rw[rB (fun h=>he h.1)]at h;have AQ:=rz h;clear h;go_wp2_with fail;refine⟨?_,dZ⟩;first|exact⟨13,by simp,V,AQ.out⟩|exact⟨_,_,_,_,⟨13,rfl,V,AQ.out⟩,rfl,rfl,rfl,rfl⟩
   ·have h:R=if []=l/\l≠ []then 13 else xf l 14 (ux.drop 14):=d.out;clear d;rw[rB (fun h=>h.2 h.1.symm)]at h;have AQ:=rz h;clear h;by_cases he:l=[];·subst he;exact nO
    ·exact nO
   ·have h:R=if [102,105,120,101,100]=l/\l≠ []then 14 else xf l 15 (ux.drop 15):=d.out;clear d;by_cases he:[102,105,120,101,100]=l;·exact mi
    ·rw[rB (fun h=>he h.1)]at h;have AQ:=rz h;clear h;go_wp2_with fail;refine⟨?_,dZ⟩;first|exact⟨15,by simp,V,AQ.out⟩|exact⟨_,_,_,_,⟨15,rfl,V,AQ.out⟩,rfl,rfl,rfl,rfl⟩
   ·have h:R=0:=d.out;subst h;exact bI
end Go.Proofs.YtccjlcadbpinfaaGreatDoor.Tp
namespace Go.Proofs.YtccjlcadbpinfaaGreatDoor.Can
open Go.RowKit
open Mem
section
variable{ops:Array Oper}{Q:Exit->Act->World->Prop}{mk:List Nat}{i:Nat}{σ:List Nat}{T:Nat}{a:Act}{w:World}{dst:Option Tmp}{x y z:Operand}{ty:TypeId}{pos:String}{af:Array Edge}{gd:Option (Nat×Bool)}
def PT(l:mk.contains i=false)(j:ops[i]? =some ⟨dst,.slice 22 x (some y) none none,ty,pos,af,gd⟩)(r:Region.wanted ⟨dst,.slice 22 x (some y) none none,ty,pos,af,gd⟩ (yielded ops a.tmps)=true){n c B p:Nat}{k:IntKind}{A:aft}{xs:afs}(t:a.eval x=.slice A n c)(C:a.eval y=.int k (p:Int))(q:Rd w B A n xs)(e:p<=n)(m:n<=c)(h:∀d,Rd w B d (n-p) (xs.drop p)->BB Tryz.prog ops Q mk σ T (a.put dst (.slice d (n-p) (c-p))) w):BB Tryz.prog ops Q mk (i::σ) T a w:=by refine tm l j r (v:=.slice (if c=p then A else A.map (·.add p)) (n-p) (c-p)) (fun w'=> ?_) (h _ (q.cut e m));unfold execOp;simp only[uJ,vR,ua,t,C,xm,Option.map_none,Vx A n c p e k]
end
end Go.Proofs.YtccjlcadbpinfaaGreatDoor.Can
namespace Go.Proofs.YtccjlcadbpinfaaGreatDoor.Can
open Go.RowKit
inductive sA where
 |nil
 |cons (i:Nat) (p:sA)
 |fork (i:Nat) (p:sA) (j:Nat) (q:sA)
def sA.of:List Nat->sA->sA
 | [],p=>p
 |i::l,p=>.cons i (sA.of l p)
def sA.deep:sA->Nat
 | .nil=>0
 | .cons _ p=>p.deep+1
 | .fork _ p _ q=>max p.deep q.deep+1
section
variable{P:Program}{ops:Array Oper}{Q:Exit->Act->World->Prop}{mk:List Nat}
def AG(ops:Array Oper)(mk:List Nat):sA->Array Bool->Bool
 | .nil,d=>(Region.ready .any ops d).isEmpty
 | .cons i p,d=>(if mk.contains i then Region.ready .any ops d== [i]else Region.free .any ops d i&&(Region.ready .any ops d).contains i)&&AG ops mk p (d.setIfInBounds i true)
 | .fork i p j q,d=>Region.ready .any ops d== [i,j]&&AG ops mk p (d.setIfInBounds i true)&&AG ops mk q (d.setIfInBounds j true)
def yC{i:Nat}{a:Act}{w:World}{K:Act->World->Prop}{dst:Option Tmp}{l:Op}{ty:TypeId}{pos:String}{af:Array Edge}{gd:Option (Nat×Bool)}(t:ops[i]? =some ⟨dst,l,ty,pos,af,gd⟩)(h:∀m:Exit->Act->World->Prop,(∀d w',K d w'->m .normal d w')->wpList P ops m [⟨dst,l,ty,pos,af,gd⟩] a w):wpOp P ops Q i K a w:=by
 have j:=h (fun e d w'=>e=.normal/\K d w') (fun d w' r=>⟨rfl,r⟩);have C:∀c(d:Act)(w':World),¬((Exit.panic c)=.normal/\K d w'):=fun c d w' k=>by cases k.1
 have p:¬LetsOut (fun e d w'=>e=Exit.normal/\K d w'):=fun⟨d,w',k⟩=>by cases k.1
 unfold wpOp;simp only[t];unfold wpList at j;by_cases q:Region.wanted ⟨dst,l,ty,pos,af,gd⟩ (yielded ops a.tmps)=true
 ·rw[rG q]at j|-;rcases j with j|⟨_,v⟩;·exact .inl (QH (fun d w' k=>k.2) C p j)
  ·exact(p v).elim
 ·rw[rB q]at j|-;exact j.2
end
end Go.Proofs.YtccjlcadbpinfaaGreatDoor.Can
namespace Go.Proofs.YtccjlcadbpinfaaGreatDoor.Can
open Go.RowKit
open Num Mem
structure sa(g B:Nat)(w w':World):Prop where
 env:w'.os=w.os/\w'.tape=w.tape/\w'.output=w.output
 size:w.heap.size<=w'.heap.size
 block:∀k,k<B->k≠g->w'.heap[k]? =w.heap[k]?
section
variable{g B B':Nat}{a b w w':World}
def sa.refl(g B:Nat)(w:World):sa g B w w:=⟨⟨rfl,rfl,rfl⟩,rZ _,fun _ _ _=>rfl⟩
def sa.trans(h:sa g B a b)(k:sa g B b w):sa g B a w:=⟨⟨k.env.1.trans h.env.1,k.env.2.1.trans h.env.2.1,k.env.2.2.trans h.env.2.2⟩,sn h.size k.size,fun i e d=>(k.block i e d).trans (h.block i e d)⟩
def sa.mono(h:sa g B w w')(d:B'<=B):sa g B' w w':=⟨h.env,h.size,fun k j e=>h.block k (rS j d) e⟩
def sa.of(h:Below B w w'):sa g B w w':=⟨⟨h.os,h.tape,h.output⟩,h.size,fun k d _=>h.block k d⟩
def sa.below(h:sa g B w w')(d:B'<=B)(e:B'<=g):Below B' w w':=⟨h.env.1,h.env.2.1,h.env.2.2,h.size,fun k j=>h.block k V V⟩
def sa.sY(h:sa g B a b)(d:B<=b.heap.size)(k:sa g b.heap.size b w):sa g B a w:=h.trans (k.mono d)
def sa.cell(h:sa g B w w'){p:Addr}(e:p.block<B)(d:p.block≠g):w'.cell? p=w.cell? p:=rK (w:=w) (h.block p.block e d)
def sa.frozen(h:sa g B w w'){p:Addr}(e:p.block<B)(d:p.block≠g):w'.frozen? p=w.frozen? p:=sP (w:=w) (h.block p.block e d)
def sa.drew(h:sa g B a w):sa g B a w.drew:=⟨h.env,h.size,h.block⟩
def sa.alloc(h:sa g B a w)(d:B<=w.heap.size)(o:Obj):sa g B a (w.alloc o):=h.trans (sa.of ((Below.refl B w).alloc d o))
def sa.setAt(h:sa g B a w)(i:Nat)(u:Value):sa g B a (w.setCell ⟨g,i,none⟩ u):=h.trans ⟨⟨rfl,rfl,rfl⟩,by simp[World.setCell],fun k _ d=>Below.heap_setCell w ⟨g,i,none⟩ u k d⟩
def sa.wS(h:sa g B a w){p:Addr}(d:B<=p.block)(u:Value):sa g B a (w.setCell p u):=h.trans (sa.of ((Below.refl B w).setCell d u))
def _root_.Go.Proofs.YtccjlcadbpinfaaGreatDoor.Mem.Rd.off{n:Nat}{A:aft}{xs:afs}(h:Rd w B A n xs)(d:sa g B' w w')(e:B<=B')(j:B<=g):Rd w' B A n xs:=h.keep fun _ _=>d.cell V V
def _root_.Go.Proofs.YtccjlcadbpinfaaGreatDoor.Mem.Own.off{base n c:Nat}{A:aft}{xs:afs}(h:Own w base A n c xs)(m:sa g w.heap.size w w')(q:g<base):Own w' base A n c xs:=by
 obtain⟨l,d⟩:=h;refine⟨l,?_⟩;rcases d with d|⟨k,cap,j,p,hb,e,r⟩;·exact .inl d
 ·refine .inr ⟨k,cap,j,p,hb,?_,r⟩;rw[m.block k (by rw[vm]at e;exact e.1) V];exact e
end
structure Aq(K:Nat->World->World->Prop):Prop where
 refl:∀B w,K B w w
 trans:∀{B a b c},K B a b->K B b c->K B a c
 mono:∀{B B' a b},K B a b->B'<=B->K B' a b
structure vp(X:Addr->Prop)(B:Nat)(w w':World):Prop where
 size:w.heap.size<=w'.heap.size
 cell:∀p,p.block<B->¬X p->w'.cell? p=w.cell? p
 frozen:∀p,p.block<B->¬X p->w'.frozen? p=w.frozen? p
def vp.keeps(X:Addr->Prop):Aq (vp X):=⟨fun _ _=>⟨rZ _,fun _ _ _=>rfl,fun _ _ _=>rfl⟩,fun h k=>⟨sn h.size k.size,fun p d e=>(k.cell p d e).trans (h.cell p d e),fun p d e=>(k.frozen p d e).trans (h.frozen p d e)⟩,fun h j=>⟨h.size,fun p d e=>h.cell p (rS d j) e,fun p d e=>h.frozen p (rS d j) e⟩⟩
def vp.of{X:Addr->Prop}{B:Nat}{w w':World}(h:Below B w w'):vp X B w w':=⟨h.size,fun _ d _=>h.cell d,fun _ d _=>h.frozen d⟩
def vp.refl(X:Addr->Prop)(B:Nat)(w:World):vp X B w w:=(vp.keeps X).refl B w
def vp.mono{X:Addr->Prop}{B B':Nat}{w w':World}(h:vp X B w w')(d:B'<=B):vp X B' w w':=(vp.keeps X).mono h d
def vp.trans{X:Addr->Prop}{B:Nat}{a b c:World}(h:vp X B a b)(k:vp X B b c):vp X B a c:=(vp.keeps X).trans h k
def Below.keeps:Aq Below:=⟨fun B w=>Below.refl B w,fun h k=>h.trans k,fun h d=>h.mono d⟩
section
variable{P:Program}{ops:Array Oper}{Q:Exit->Act->World->Prop}{mk:List Nat}{K:Nat->World->World->Prop}
def wY(P:Program)(ops:Array Oper)(Q:Exit->Act->World->Prop)(mk:List Nat)(K:Nat->World->World->Prop):sA->Nat->Act->World->Prop
 | .nil,_,a,w=>Q .normal a w
 | .cons i p,T,a,w=>∃o,ops[i]? =some o/\∃d,T<=d/\if mk.contains i then wpOp P ops Q i (fun e w'=>K d w w'/\wY P ops Q mk K p d e w') a w else∃v,YieldsIf P ops (K d w) o v a/\wY P ops Q mk K p d (a.put o.dst v) w
 | .fork i p j q,T,a,w=>∃d,T<=d/\wpOp P ops Q i (fun e w'=>K d w w'/\wY P ops Q mk K p d e w') a w/\wpOp P ops Q j (fun e w'=>K d w w'/\wY P ops Q mk K q d e w') a w
def yu(m:Aq K)(G:Region.noSelect ops=true)(F:∀c(a:Act) d v w,Q (.panic c) (a.put d v) w->Q (.panic c) a w):∀(σ:sA)(e T:Nat)(D:Array Bool)(a:Act)(w:World),σ.deep<=e->AG ops mk σ D=true->wY P ops Q mk K σ T a w->wpAnyH P .any ops Q (K T w) e D a w
 | .nil,e,T,D,a,w,_,C,h=>wpAnyH_done (by simpa[AG]using C) h e
 | .cons i σ,e,T,D,a,w,hf,C,h=>
 by
  obtain⟨e,rfl⟩:∃k,e=k+1:=⟨e-1,eU⟩;simp only[sA.deep,Nat.add_le_add_iff_right]at hf;obtain⟨o,W,t,M,L⟩:=h;simp only[AG,rO]at C;obtain⟨r,I⟩:=C;refine yx (S':=K t w) (fun w' hb=>m.mono hb M) _ _ _ _ ?_;by_cases O:mk.contains i=true
  ·rw[rG O]at r L;have N:Region.ready .any ops D=[i]:=by simpa using r
   refine wpAnyH_all N bA fun j hj=> ?_
   obtain rfl:j=i:=fK;refine uU (fun E w' l=>⟨l.1,?_⟩) L;exact yx (fun x H=>m.trans l.1 H) _ _ _ _ (yu m G F σ e t _ E w' hf I l.2)
  ·rw[rB O]at r L;simp only[rO]at r;obtain⟨v,Z,Y⟩:=L;exact wpAnyH_take W G r.1 r.2 (fun c a w=>F c a _ v w) Z (m.refl _ _) (yu m G F σ e t _ _ w hf I Y)
 | .fork i p j q,e,T,D,a,w,hf,C,h=>
 by
  obtain⟨e,rfl⟩:∃k,e=k+1:=⟨e-1,eU⟩;simp only[sA.deep,Nat.add_le_add_iff_right]at hf;obtain⟨t,M,R,S⟩:=h;simp only[AG,rO]at C;obtain⟨⟨U,r⟩,I⟩:=C;refine yx (S':=K t w) (fun w' hb=>m.mono hb M) _ _ _ _ ?_;have N:Region.ready .any ops D=[i,j]:=by simpa using U
  refine wpAnyH_all N bA fun k hk=> ?_
  have X:k=i\/k=j:=ki;rcases X with rfl|rfl;·refine uU (fun E w' l=>⟨l.1,?_⟩) R;exact yx (fun x H=>m.trans l.1 H) _ _ _ _ (yu m G F p e t _ E w' V r l.2)
  ·refine uU (fun E w' l=>⟨l.1,?_⟩) S;exact yx (fun x H=>m.trans l.1 H) _ _ _ _ (yu m G F q e t _ E w' V I l.2)
def sR(e:Aq K){q:Nat}{a:Act}{w:World}(σ:sA)(mk:List Nat)(m:P.follows .mixedOrders=true)(p:Region.noSelect ops=true)(l:σ.deep<=ops.size)(k:AG ops mk σ (Array.replicate ops.size false)=true)(j:∀c(a:Act) d v w,Q (.panic c) (a.put d v) w->Q (.panic c) a w)(h:∀wd:World,afv w wd->wd.heap.size=w.heap.size->wY P ops Q mk K σ 0 a wd):(Code.region q ops true).wp P Q a w:=wp_region_held (S:=K 0 w.drew) m (yu e p j σ _ 0 _ a _ l k (h w.drew xn.drew rfl))
def yr{i j:Nat}{p q:sA}{T:Nat}{a:Act}{w:World}{dst r:Option Tmp}{v C:Op}{ty E:TypeId}{pos D:String}{af m:Array Edge}{gd t:Option (Nat×Bool)}(I:ops[i]? =some ⟨dst,v,ty,pos,af,gd⟩)(L:ops[j]? =some ⟨r,C,E,D,m,t⟩)(h:Nat)(H:T<=h)(F:∀d:Exit->Act->World->Prop,(∀e w',K h w w'->wY P ops Q mk K p h e w'->d .normal e w')->wpList P ops d [⟨dst,v,ty,pos,af,gd⟩] a w)(G:∀d:Exit->Act->World->Prop,(∀e w',K h w w'->wY P ops Q mk K q h e w'->d .normal e w')->wpList P ops d [⟨r,C,E,D,m,t⟩] a w):wY P ops Q mk K (.fork i p j q) T a w:=⟨h,H,yC I (fun d k=>F d (fun e w' hb l=>k e w' ⟨hb,l⟩)),yC L (fun d k=>G d (fun e w' hb l=>k e w' ⟨hb,l⟩))⟩
def tp{i:Nat}{σ:sA}{T:Nat}{a:Act}{w:World}{dst:Option Tmp}{d:Op}{ty:TypeId}{pos:String}{af:Array Edge}{gd:Option (Nat×Bool)}(j:mk.contains i=false)(e:ops[i]? =some ⟨dst,d,ty,pos,af,gd⟩)(hw:Region.wanted ⟨dst,d,ty,pos,af,gd⟩ (yielded ops a.tmps)=true){v:Value}(hy:∀w',(execOp a.eval ⟨dst,d,ty,pos,af,gd⟩).run P w'=.ok (.value v) w')(h:wY P ops Q mk K σ T (a.put dst v) w):wY P ops Q mk K (.cons i σ) T a w:=⟨_,e,T,rZ _,by rw[j,rB bA];exact jo⟩
def tA{i:Nat}{σ:sA}{T:Nat}{a:Act}{w:World}{dst:Option Tmp}{e:Op}{ty:TypeId}{pos:String}{af:Array Edge}{gd:Option (Nat×Bool)}(l:mk.contains i=false)(k:ops[i]? =some ⟨dst,e,ty,pos,af,gd⟩)(hw:Region.wanted ⟨dst,e,ty,pos,af,gd⟩ (yielded ops a.tmps)=true)(d:Nat)(j:T<=d)(v:Value)(hy:∀w',K d w w'->(execOp a.eval ⟨dst,e,ty,pos,af,gd⟩).run P w'=.ok (.value v) w')(h:wY P ops Q mk K σ d (a.put dst v) w):wY P ops Q mk K (.cons i σ) T a w:=⟨_,k,d,j,by rw[l,rB bA];exact jp⟩
def sF{T:Nat}{a:Act}{w:World}(h:Q .normal a w):wY P ops Q mk K .nil T a w:=h
def tF{i:Nat}{σ:sA}{T:Nat}{a:Act}{w:World}{dst:Option Tmp}{d:Op}{ty:TypeId}{pos:String}{af:Array Edge}{gd:Option (Nat×Bool)}(j:mk.contains i=false)(e:ops[i]? =some ⟨dst,d,ty,pos,af,gd⟩)(hw:Region.wanted ⟨dst,d,ty,pos,af,gd⟩ (yielded ops a.tmps)=false)(h:wY P ops Q mk K σ T (a.put dst undef) w):wY P ops Q mk K (.cons i σ) T a w:=⟨_,e,T,rZ _,by rw[j,rB bA];exact kJ⟩
def se{i:Nat}{σ:sA}{T:Nat}{a:Act}{w:World}{dst:Option Tmp}{e:Op}{ty:TypeId}{pos:String}{af:Array Edge}{gd:Option (Nat×Bool)}(hm:mk.contains i=true)(hi:ops[i]? =some ⟨dst,e,ty,pos,af,gd⟩)(d:Nat)(j:T<=d)(h:∀Q':Exit->Act->World->Prop,(∀a' w',K d w w'->wY P ops Q mk K σ d a' w'->Q' .normal a' w')->wpList P ops Q' [⟨dst,e,ty,pos,af,gd⟩] a w):wY P ops Q mk K (.cons i σ) T a w:=⟨_,hi,d,j,gK⟩
end
end Go.Proofs.YtccjlcadbpinfaaGreatDoor.Can
namespace Go.Proofs.YtccjlcadbpinfaaGreatDoor.Mem
open ChangeShapes WideShapes ChangeAt RowKit
def Bx(w:World)(A:aft)(g:Nat)(v:Value):Prop:=w.cell? (rN g 0)=some v/\∀d,A=some d->d.block≠g
def Bx.cell{w:World}{A:aft}{g:Nat}{v:Value}(h:Bx w A g v):w.cell? (rN g 0)=some v:=h.1
def Bx.lt{w:World}{A:aft}{g:Nat}{v:Value}(h:Bx w A g v):g<w.heap.size:=xW _ _ h.1
def Bx.alloc{w:World}{A:aft}{g:Nat}{v:Value}(h:Bx w A g v)(o:Obj):Bx (w.alloc o) A g v:=⟨by rw[World.cell?_alloc_lt w o _ h.lt];exact h.1,h.2⟩
def Bx.drewN{w:World}{A:aft}{g:Nat}{v:Value}(h:Bx w A g v)(k:Nat):Bx (w.drewN k) A g v:=h
def Bx.new{w:World}{base n c:Nat}{A:aft}{xs:afs}(h:Own w base A n c xs)(v:Value)(t:TypeId):Bx (w.alloc (.cells #[v] t)) A w.heap.size v:=⟨bA,fun d e=>by have:=h.block d e;omega⟩
def zw(w:World)(x:UInt8)(v:Int)(g:Nat)(d:g=w.heap.size)(e:v=(x.toNat:Int)):Rd (w.alloc (.cells #[.int .u8 v] 5)) (w.heap.size+1) (some ⟨g,0,none⟩) 1 [x]:=by rw[d];exact rd_val w x v e
section
variable{ops:Array Oper}{rest:List Oper}{o:Oper}{a:Act}{Q:Exit->Act->World->Prop}{w:World}
def Vv{base n c m d B:Nat}{A A':aft}{xs ys:afs}(ty:TypeId)(Er:Own w base A n c xs)(hr:Rd w B A' m ys)(W:n+m<=140737488355328)(FN:base<=w.heap.size)(t:Nat)(D:Value)(r:Bx w A t D):∃l c2 w',(Builtin.append_ #[22,22] ty #[.slice A n c,.slice A' m d]).run Tryz.prog w=.ok (.slice l (n+m) c2) w'/\Own w' base l (n+m) c2 (xs++ys)/\Below base w w'/\Bx w' l t D:=by
 obtain⟨O,v,M,C,N⟩:=xG An;by_cases H:m=0;·subst H;have L:ys=[]:=rT hr.1;subst L;exact⟨A,c,w,Cp tP v C Er ty A' d,by simpa using Er,Below.refl _ _,r⟩
 ·obtain⟨g,p,rfl,U,hc⟩:=hr.2 V;obtain⟨R,w',I,h2,h3,S,q⟩:=vu (P:=Tryz.prog) w base 22 ty 5 O (.int .u8 0) 1 1 tP v M C N rfl bH (.slice A n c) n (cells xs) Er ⟨g,p,none⟩ m d (cells ys) kA dn (E9 ys) dD V FN;have F:∃l c2,R=.slice l (n+m) c2:=cV;obtain⟨l,c2,rfl⟩:=F;have G:=r.lt;refine⟨l,c2,w',I,by unfold Own;exact lz,?_,?_,?_⟩;·exact bV
  ·rw[<-r.1];refine rK (w:=w) (h3.block t G fun e=> ?_);cases A with
   |none=>simp[Value.ownBlock]at e
   |some ad=>simp only[Value.ownBlock,sq]at e;exact r.2 ad rfl e.symm
  ·rintro ad rfl;rcases q with q|q
   ·cases A with
    |none=>simp[Value.ownBlock]at q
    |some E=>simp only[Value.ownBlock,sq]at q;have:=r.2 E rfl;omega
   ·simp only[Value.ownBlock,sq]at q;omega
def yf{dst:Option Tmp}{s x:Operand}{ty:TypeId}{pos:String}{af:Array Edge}{gd:Option (Nat×Bool)}(t:Region.wanted ⟨dst,.call {callee:=.builtin .append,args:= #[s,x],argTypes:= #[22,22]},ty,pos,af,gd⟩ (yielded ops a.tmps)=true){base n c m d B:Nat}{A A':aft}{xs ys:afs}(hs:a.eval s=.slice A n c)(p:Own w base A n c xs)(hx:a.eval x=.slice A' m d)(q:Rd w B A' m ys)(r:n+m<=140737488355328)(k:base<=w.heap.size){e:Nat}{j:Value}(l:Bx w A e j)(h:∀A2 c2 w',Own w' base A2 (n+m) c2 (xs++ys)->Below base w w'->Bx w' A2 e j->wpList Tryz.prog ops Q rest (a.put dst (.slice A2 (n+m) c2)) w'):wpList Tryz.prog ops Q (⟨dst,.call {callee:=.builtin .append,args:= #[s,x],argTypes:= #[22,22]},ty,pos,af,gd⟩::rest) a w:=by
 refine tG t fun K hK=> ?_
 obtain⟨A2,c2,w',IS,h2,h3,h4⟩:=Vv (w:=w) ty p q r k (d:=d) e j l;exact cF
end
end Go.Proofs.YtccjlcadbpinfaaGreatDoor.Mem
namespace Go.Proofs.YtccjlcadbpinfaaGreatDoor.Ut
open ChangeShapes WideShapes ChangeAt RowKit
open Num Mem Can
def AZ{k:IntKind}{a b:Int}(h:a=b):Ending.returned (.int k a)=.returned (.int k b):=by rw[h]
def yR(c:Int):Bool:=decide (0<=c)&&decide (c<=1114111)&&(decide (c<55296)||decide (57343<c))
def BK(c:Int):yR c=true↔0<=c/\c<=1114111/\(c<55296\/57343<c):=by unfold yR;simp[and_assoc]
def x9(c:Int)(k: -2147483648<=c)(l:c<=2147483647)(w:World):Calls Tryz.prog 246 #[.int .i32 c] w (zW w (.bool (yR c))):=by
 obtain⟨b,hb⟩:=sW (yR c);rw[<-hb];have hi:=BK c;rw[<-hb]at hi;clear hb;rcases(show c<0\/(0<=c/\1114111<c)\/(0<=c/\c<=1114111/\c<55296)\/(0<=c/\c<=1114111/\¬c<55296/\57344<=c)\/(0<=c/\c<=1114111/\¬c<55296/\¬57344<=c)from V)with h|⟨h,d⟩|⟨h,d,e⟩|⟨h,d,e,j⟩|⟨h,d,e,j⟩;·exact pV
 ·exact pV
 ·obtain rfl:b=true:=hi.2 V;exact nc
 ·obtain rfl:b=true:=hi.2 V;exact nc
 ·exact pV
def AX(w:World):Calls Tryz.prog 247 #[.int .i64 2] w (zW w (.int .i32 128)):=pO
def Dn(w:World):Calls Tryz.prog 247 #[.int .i64 3] w (zW w (.int .i32 2048)):=pO
def Gw(w:World):Calls Tryz.prog 247 #[.int .i64 4] w (zW w (.int .i32 65536)):=pO
def OQ(g:Nat)(c:Nat)(_hc:c<=1114111)(w:World)(d:w.cell? (rN g 0)=some (.int .i32 c)):Calls Tryz.prog 248 #[.int .i64 0,sg g] w (zW w (.int .u8 (128+c%64:Nat))):=pP
def Vk(g:Nat)(c:Nat)(_hc:c<=1114111)(w:World)(d:w.cell? (rN g 0)=some (.int .i32 c)):Calls Tryz.prog 248 #[.int .i64 1,sg g] w (zW w (.int .u8 (128+c/64%64:Nat))):=pP
def aaj(g:Nat)(c:Nat)(_hc:c<=1114111)(w:World)(d:w.cell? (rN g 0)=some (.int .i32 c)):Calls Tryz.prog 248 #[.int .i64 2,sg g] w (zW w (.int .u8 (128+c/4096%64:Nat))):=pP
def wQ{P:Program}{f:FuncId}{args:Array Value}{w:World}{a n:Nat}{v:Value}(h:Calls P f args (w.drewN (a+n)) fun e w'=>e=.returned v/\w.drewN (a+n)=w'):Calls P f args (w.drewN (a+n)) fun e k=>e=.returned v/\∃m,k=w.drewN (a+m):=h.mono fun _ _ ⟨d,j⟩=>⟨d,n,j.symm⟩
def vZ{P:Program}{f:FuncId}{args:Array Value}{w:World}{n:Nat}{v:Value}(h:Calls P f args (w.drewN n) fun e w'=>e=.returned v/\w.drewN n=w'):Calls P f args (w.drewN n) fun e k=>e=.returned v/\∃m,k=w.drewN m:=h.mono fun _ _ ⟨d,j⟩=>⟨d,n,j.symm⟩
def uu(c:Nat):afs:=if c<128 then [UInt8.ofNat c]else if c<2048 then [UInt8.ofNat (192+c/64),UInt8.ofNat (128+c%64)]else if c<65536 then [UInt8.ofNat (224+c/4096),UInt8.ofNat (128+c/64%64),UInt8.ofNat (128+c%64)]else [UInt8.ofNat (240+c/262144),UInt8.ofNat (128+c/4096%64),UInt8.ofNat (128+c/64%64),UInt8.ofNat (128+c%64)]
def X1(A:aft)(k d:Nat)(c:Int)(l: -2147483648<=c)(m:c<=2147483647)(e:yR c=false)(w:World):Calls Tryz.prog 241 #[.slice A k d,.int .i32 c] w (vh w (.tuple #[.slice A k d,.int .i64 2])):=by have j:=rz e;clear e;go_enter GZ,EX;go_wp2_with fail;refine tZ (x9 c l m _) ?_;rw[j.out];go_wp2_with fail;go_ret2;exact ik
end Go.Proofs.YtccjlcadbpinfaaGreatDoor.Ut
namespace Go.Proofs.YtccjlcadbpinfaaGreatDoor.Ut
open Num Mem
section
variable{a x y z:UInt8}
def zS(a:Nat):Nat×Nat:=if a<128 then(1,a)else if a<194 then(0,0)else if a<224 then(2,a%32)else if a<240 then(3,a%16)else if a<245 then(4,a%8)else(0,0)
def AP(a b:Nat):Bool:=decide ((if a=224 then 160 else if a=240 then 144 else 128)<=b)&&decide (b<=(if a=237 then 159 else if a=244 then 143 else 191))
def wD(a b:Nat):AP a b=true↔128<=b/\b<=191/\(a=224->160<=b)/\(a=240->144<=b)/\(a=237->b<=159)/\(a=244->b<=143):=by
 unfold AP;simp only[rO,sd];repeat' split
 all_goals omega
def uc(a n:Nat):Nat->Nat->Nat->afs->Nat×Nat×Nat
 |0,_,c,_=>(c,n,0)
 |_+1,_,_,[]=>(0,0,10)
 |m+1,i,c,x::r=>if x.toNat/64≠2\/(i=1/\AP a x.toNat=false)then(0,0,11)else uc a n m (i+1) (c*64+x.toNat%64) r
def wu:afs->Nat×Nat×Nat
 | []=>(0,0,10)
 |a::r=>if(zS a.toNat).1=0 then(0,0,11)else uc a.toNat (zS a.toNat).1 ((zS a.toNat).1-1) 1 (zS a.toNat).2 r
def GJ(a n i c:Nat)(L:afs):uc a n 0 i c L=(c,n,0):=by unfold uc;rfl
def aaH(a n m i c:Nat):uc a n (m+1) i c []=(0,0,10):=rfl
def wa(a n m i c:Nat)(x:UInt8)(r:afs):uc a n (m+1) i c (x::r)=if x.toNat/64≠2\/(i=1/\AP a x.toNat=false)then(0,0,11)else uc a n m (i+1) (c*64+x.toNat%64) r:=rfl
def wE(a:UInt8)(r:afs):wu (a::r)=if(zS a.toNat).1=0 then(0,0,11)else uc a.toNat (zS a.toNat).1 ((zS a.toNat).1-1) 1 (zS a.toNat).2 r:=rfl
def V1{a:Nat}(h:a<128):zS a=(1,a):=by unfold zS;rw[rG h]
def V0{a:Nat}(h:128<=a)(d:a<194):zS a=(0,0):=by unfold zS;rw[rB V,rG d]
def Ll{a:Nat}(h:194<=a)(d:a<224):zS a=(2,a%32):=by unfold zS;rw[rB V,rB V,rG d]
def FE{a:Nat}(h:224<=a)(d:a<240):zS a=(3,a%16):=by unfold zS;rw[rB V,rB V,rB V,rG d]
def Da{a:Nat}(h:240<=a)(d:a<245):zS a=(4,a%8):=by unfold zS;rw[rB V,rB V,rB V,rB V,rG d]
def V5{a:Nat}(h:245<=a):zS a=(0,0):=by unfold zS;rw[rB V,rB V,rB V,rB V,rB V]
def Nh(h:a.toNat<128)(r:afs):wu (a::r)=(a.toNat,1,0):=by rw[wE,V1 h];rfl
def Wa(h:194<=a.toNat)(d:a.toNat<224)(j:128<=x.toNat)(k:x.toNat<192)(r:afs):wu (a::x::r)=(a.toNat%32*64+x.toNat%64,2,0):=by have e:AP a.toNat x.toNat=true:=(wD _ _).2 V;rw[wE,Ll h d,rB bA];show uc _ _ 1 _ _ _=_;rw[wa,rB (by rw[e];simp;omega),GJ]
def Wb(h:224<=a.toNat)(d:a.toNat<240)(hx:AP a.toNat x.toNat=true)(j:128<=y.toNat)(k:y.toNat<192)(r:afs):wu (a::x::y::r)=((a.toNat%16*64+x.toNat%64)*64+y.toNat%64,3,0):=by have e:=(wD _ _).1 hx;rw[wE,FE h d,rB bA];show uc _ _ 2 _ _ _=_;rw[wa,rB fk,wa,rB (by simp;omega),GJ]
def Wc(h:240<=a.toNat)(d:a.toNat<245)(hx:AP a.toNat x.toNat=true)(j:128<=y.toNat)(k:y.toNat<192)(l:128<=z.toNat)(m:z.toNat<192)(r:afs):wu (a::x::y::z::r)=(((a.toNat%8*64+x.toNat%64)*64+y.toNat%64)*64+z.toNat%64,4,0):=by have e:=(wD _ _).1 hx;rw[wE,Da h d,rB bA];show uc _ _ 3 _ _ _=_;rw[wa,rB fk,wa,rB (by simp;omega),wa,rB (by simp;omega),GJ]
def Wf(h:194<=a.toNat)(e:a.toNat<245):wu [a]=(0,0,10):=by
 rw[wE];rcases(show a.toNat<224\/(224<=a.toNat/\a.toNat<240)\/240<=a.toNat from V)with d|⟨d,j⟩|d;·rw[Ll h d];rfl
 ·rw[FE d j];rfl
 ·rw[Da d e];rfl
def Wg(h:224<=a.toNat)(e:a.toNat<245)(hx:AP a.toNat x.toNat=true):wu [a,x]=(0,0,10):=by
 have j:=(wD _ _).1 hx;rw[wE];rcases(show a.toNat<240\/240<=a.toNat from V)with d|d;·rw[FE h d,rB bA];show uc _ _ 2 _ _ _=_;rw[wa,rB fk];rfl
 ·rw[Da d e,rB bA];show uc _ _ 3 _ _ _=_;rw[wa,rB fk];rfl
def Wh(h:240<=a.toNat)(d:a.toNat<245)(hx:AP a.toNat x.toNat=true)(j:128<=y.toNat)(k:y.toNat<192):wu [a,x,y]=(0,0,10):=by have e:=(wD _ _).1 hx;rw[wE,Da h d,rB bA];show uc _ _ 3 _ _ _=_;rw[wa,rB fk,wa,rB (by simp;omega)];rfl
end
inductive IK:afs->Prop
 |s0:IK []
 |s1 (a:UInt8) (h:194<=a.toNat) (h':a.toNat<245):IK [a]
 |s2 (a x:UInt8) (h:224<=a.toNat) (h':a.toNat<245) (hx:AP a.toNat x.toNat=true):IK [a,x]
 |s3 (a x y:UInt8) (h:240<=a.toNat) (h':a.toNat<245) (hx:AP a.toNat x.toNat=true) (hy:128<=y.toNat) (hy':y.toNat<192):IK [a,x,y]
 |bad (L:afs) (h:wu L=(0,0,11)):IK L
 |o1 (a:UInt8) (r:afs) (h:a.toNat<128):IK (a::r)
 |o2 (a x:UInt8) (r:afs) (h:194<=a.toNat) (h':a.toNat<224) (hx:128<=x.toNat) (Ux:x.toNat<192):IK (a::x::r)
 |o3 (a x y:UInt8) (r:afs) (h:224<=a.toNat) (h':a.toNat<240) (hx:AP a.toNat x.toNat=true) (hy:128<=y.toNat) (hy':y.toNat<192):IK (a::x::y::r)
 |o4 (a x y z:UInt8) (r:afs) (h:240<=a.toNat) (h':a.toNat<245) (hx:AP a.toNat x.toNat=true) (hy:128<=y.toNat) (hy':y.toNat<192) (hz:128<=z.toNat) (hz':z.toNat<192):IK (a::x::y::z::r)
def acj(L:afs):IK L:=by
 match L with
 | []=>exact .s0
 |a::r=>
  by_cases m:a.toNat<128;·exact .o1 a r m
  by_cases l:a.toNat<194;·exact .bad _ (by rw[wE,V0 V l];rfl)
  by_cases p:245<=a.toNat;·exact .bad _ (by rw[wE,V5 p];rfl)
  match r with
  | []=>exact .s1 a V V
  |x::r=>
   by_cases hx:AP a.toNat x.toNat=true
   ·have q:=(wD _ _).1 hx;by_cases d:a.toNat<224;·exact .o2 a x r V d V V
    match r with
    | []=>exact .s2 a x V V hx
    |y::r=>
     by_cases e:128<=y.toNat/\y.toNat<192
     ·by_cases j:a.toNat<240;·exact .o3 a x y r V j hx e.1 e.2
      match r with
      | []=>exact .s3 a x y V V hx e.1 e.2
      |z::r=>
       by_cases k:128<=z.toNat/\z.toNat<192;·exact .o4 a x y z r V V hx e.1 e.2 k.1 k.2
       ·refine .bad _ ?_;rw[wE,Da V V,rB bA];show uc _ _ 3 _ _ _=_;rw[wa,rB fk,wa,rB (by simp;omega),wa,rG (by left;omega)]
     ·refine .bad _ ?_;rw[wE];by_cases j:a.toNat<240;·rw[FE V j,rB bA];show uc _ _ 2 _ _ _=_;exact pe
      ·rw[Da V V,rB bA];show uc _ _ 3 _ _ _=_;exact pe
   ·have Ux:AP a.toNat x.toNat=false:=by simpa using hx
    refine .bad _ ?_;rw[wE];rcases(show a.toNat<224\/(224<=a.toNat/\a.toNat<240)\/240<=a.toNat from V)with d|⟨d,j⟩|d;·rw[Ll V d,rB bA];show uc _ _ 1 _ _ _=_;exact kC
    ·rw[FE d j,rB bA];show uc _ _ 2 _ _ _=_;exact kC
    ·rw[Da d V,rB bA];show uc _ _ 3 _ _ _=_;exact kC
def yU{x:UInt8}{n:Nat}(h:n=x.toNat):UInt8.ofNat n=x:=by subst h;simp
def EA(c:Nat):1<=(uu c).length/\(uu c).length<=4:=by
 unfold uu;repeat' split
 all_goals simp
def We{L:afs}(h:(wu L).2.2=0):yR (wu L).1=true/\(wu L).1<=1114111/\uu (wu L).1++L.drop (wu L).2.1=L/\(wu L).2.1=(uu (wu L).1).length:=by
 cases acj L with
 |s0=>cases h
 |s1 a d e=>rw[Wf d e]at h;cases h
 |s2 a x d e j=>rw[Wg d e j]at h;cases h
 |s3 a x y d e j k l=>rw[Wh d e j k l]at h;cases h
 |bad _ hb=>rw[hb]at h;cases h
 |o1 a r d=>
  rw[Nh d];simp only[];refine⟨(BK _).2 V,V,?_,?_⟩;·unfold uu;rw[rG d];simp
  ·unfold uu;rw[rG d];rfl
 |o2 a x r d e k l=>
  rw[Wa d e k l];simp only[];have hu:uu (a.toNat%32*64+x.toNat%64)=[a,x]:=by unfold uu;rw[rB V,rG V,yU (x:=a) V,yU (x:=x) V]
  exact oa
 |o3 a x y r d e j k l=>
  have q:=(wD _ _).1 j;rw[Wb d e j k l];simp only[];have hu:uu ((a.toNat%16*64+x.toNat%64)*64+y.toNat%64)=[a,x,y]:=by unfold uu;rw[rB V,rB V,rG V,yU (x:=a) V,yU (x:=x) V,yU (x:=y) V]
  exact oa
 |o4 a x y z r d e j k l m p=>
  have q:=(wD _ _).1 j;rw[Wc d e j k l m p];simp only[];have hu:uu (((a.toNat%8*64+x.toNat%64)*64+y.toNat%64)*64+z.toNat%64)=[a,x,y,z]:=by unfold uu;rw[rB V,rB V,rB V,yU (x:=a) V,yU (x:=x) V,yU (x:=y) V,yU (x:=z) V]
  exact oa
def Ys{L:afs}(h:(wu L).2.2≠0):wu L=(0,0,10)\/wu L=(0,0,11):=by
 cases acj L with
 |s0=>exact .inl rfl
 |s1 a d e=>exact .inl (Wf d e)
 |s2 a x d e l=>exact .inl (Wg d e l)
 |s3 a x y d e l j k=>exact .inl (Wh d e l j k)
 |bad _ hb=>exact .inr hb
 |o1 a r d=>rw[Nh d]at h;exact km
 |o2 a x r d e j k=>rw[Wa d e j k]at h;exact km
 |o3 a x y r d e l j k=>rw[Wb d e l j k]at h;exact km
 |o4 a x y z r d e l j k m p=>rw[Wc d e l j k m p]at h;exact km
def Ng{c:Nat}(l:yR c=true):(∃a,uu c=[a]/\a.toNat<128/\c=a.toNat)\/(∃a x,uu c=[a,x]/\194<=a.toNat/\a.toNat<224/\128<=x.toNat/\x.toNat<192/\c=a.toNat%32*64+x.toNat%64)\/(∃a x y,uu c=[a,x,y]/\224<=a.toNat/\a.toNat<240/\AP a.toNat x.toNat=true/\128<=y.toNat/\y.toNat<192/\c=(a.toNat%16*64+x.toNat%64)*64+y.toNat%64)\/(∃a x y z,uu c=[a,x,y,z]/\240<=a.toNat/\a.toNat<245/\AP a.toNat x.toNat=true/\128<=y.toNat/\y.toNat<192/\128<=z.toNat/\z.toNat<192/\c=((a.toNat%8*64+x.toNat%64)*64+y.toNat%64)*64+z.toNat%64):=by
 have m:=(BK c).1 l;have d:∀n,n<256->(UInt8.ofNat n).toNat=n:=fun n p=>cw
 by_cases e:c<128;·exact .inl ⟨UInt8.ofNat c,by unfold uu;rw[rG e],by rw[d _ V];exact e,by rw[d _ V]⟩
 by_cases j:c<2048;·refine .inr (.inl ⟨UInt8.ofNat (192+c/64),UInt8.ofNat (128+c%64),by unfold uu;rw[rB e,rG j],?_⟩);rw[d _ V,d _ V];omega
 by_cases k:c<65536;·refine .inr (.inr (.inl ⟨UInt8.ofNat (224+c/4096),UInt8.ofNat (128+c/64%64),UInt8.ofNat (128+c%64),by unfold uu;rw[rB e,rB j,rG k],?_⟩));rw[d _ V,d _ V,d _ V,wD];omega
 ·refine .inr (.inr (.inr ⟨UInt8.ofNat (240+c/262144),UInt8.ofNat (128+c/4096%64),UInt8.ofNat (128+c/64%64),UInt8.ofNat (128+c%64),by unfold uu;rw[rB e,rB j,rB k],?_⟩));rw[d _ V,d _ V,d _ V,d _ V,wD];omega
def Wi{c:Nat}(r:yR c=true)(t:afs):wu (uu c++t)=(c,(uu c).length,0):=by
 rcases Ng r with⟨a,h,d,e⟩|⟨a,x,h,d,e,j,k,l⟩|⟨a,x,y,h,d,e,j,k,l,m⟩|⟨a,x,y,z,h,d,e,j,k,l,m,p,q⟩;·rw[h];simp only[si,so,rP,sl];rw[Nh d,e]
 ·rw[h];simp only[si,so,rP,sl];rw[Wa d e j k,l]
 ·rw[h];simp only[si,so,rP,sl];rw[Wb d e j k l,m]
 ·rw[h];simp only[si,so,rP,sl];rw[Wc d e j k l m p,q]
def QF(n:Nat)(b:afs):Int:=match n,b with
 |1,a::_=>a.toNat
 |2,a::x::_=>((a.toNat:Int)-192)*64+((x.toNat:Int)-128)
 |3,a::x::y::_=>((a.toNat:Int)-224)*4096+((x.toNat:Int)-128)*64+((y.toNat:Int)-128)
 |4,a::x::y::z::_=>((a.toNat:Int)-240)*262144+((x.toNat:Int)-128)*4096+((y.toNat:Int)-128)*64+((z.toNat:Int)-128)
 |_,_=> -1
def ack(n:Nat)(b:afs):Prop:=yR (QF n b)=true/\(uu (QF n b).toNat).length=n/\uu (QF n b).toNat<+:b
def SH{c:Nat}(p:yR c=true)(t:afs):QF (uu c).length (uu c++t)=c:=by
 rcases Ng p with⟨a,d,j,e⟩|⟨a,x,d,j,e,h,k,l⟩|⟨a,x,y,d,j,e,h,k,l,m⟩|⟨a,x,y,z,d,j,e,h,k,l,m,r,v⟩;·rw[d,e];rfl
 ·rw[d];show((a.toNat:Int)-192)*64+((x.toNat:Int)-128)=_;omega
 ·have q:=(wD _ _).1 h;rw[d];show((a.toNat:Int)-224)*4096+((x.toNat:Int)-128)*64+((y.toNat:Int)-128)=_;omega
 ·have q:=(wD _ _).1 h;rw[d];show((a.toNat:Int)-240)*262144+((x.toNat:Int)-128)*4096+((y.toNat:Int)-128)*64+((z.toNat:Int)-128)=_;omega
def Va{b:afs}(h:(wu b).2.2=0):ack (wu b).2.1 b/\1<=(wu b).2.1/\(wu b).2.1<=4/\(wu b).2.1<=b.length:=by obtain⟨j,_,e,k⟩:=We h;have m:=EA (wu b).1;have l:=CF List.length e;simp only[rL]at l;have d:=SH j (b.drop (wu b).2.1);rw[e,<-k]at d;refine⟨⟨by rw[d];exact j,by rw[d,k];rfl,?_⟩,V,V,V⟩;rw[d];exact⟨_,e⟩
end Go.Proofs.YtccjlcadbpinfaaGreatDoor.Ut
namespace Go.Proofs.YtccjlcadbpinfaaGreatDoor.Ut
open ChangeShapes WideShapes ChangeAt RowKit
open Num Mem Can
def Ji(a:Nat)(e:a<256)(w:World):Calls Tryz.prog 220 #[.int .u8 a] w (zW w (.tuple #[.int .i64 (zS a).1,.int .i32 (zS a).2])):=by
 rcases(show a<128\/(128<=a/\a<194)\/(194<=a/\a<224)\/(224<=a/\a<240)\/(240<=a/\a<245)\/245<=a from V)with h|⟨h,d⟩|⟨h,d⟩|⟨h,d⟩|⟨h,d⟩|h;·rw[V1 h];exact mZ
 ·rw[V0 h d];exact mZ
 ·rw[Ll h d];exact mZ
 ·rw[FE h d];exact mZ
 ·rw[Da h d];exact mZ
 ·rw[V5 h];exact mZ
def Ie(a b:Nat)(j:a<256)(hb:b<256)(w:World):Calls Tryz.prog 221 #[.int .u8 a,.int .u8 b] w (zW w (.bool (AP a b))):=by
 have hi:=wD a b;obtain⟨r,e⟩:=sW (AP a b);rw[<-e]at hi|-;clear e;rcases(show a=224\/a=237\/a=240\/a=244\/(a≠224/\a≠237/\a≠240/\a≠244)from V)with h|h|h|h|⟨h1,h2,h3,h4⟩
 ·rcases(show b<160\/(160<=b/\b<=191)\/(160<=b/\¬b<=191)from V)with q|⟨q,d⟩|⟨q,d⟩;·exact mn
  ·exact pM
  ·exact mn
 ·rcases(show b<128\/(128<=b/\b<=159)\/(128<=b/\¬b<=159)from V)with q|⟨q,d⟩|⟨q,d⟩;·exact mn
  ·exact pM
  ·exact mn
 ·rcases(show b<144\/(144<=b/\b<=191)\/(144<=b/\¬b<=191)from V)with q|⟨q,d⟩|⟨q,d⟩;·exact mn
  ·exact pM
  ·exact mn
 ·rcases(show b<128\/(128<=b/\b<=143)\/(128<=b/\¬b<=143)from V)with q|⟨q,d⟩|⟨q,d⟩;·exact mn
  ·exact pM
  ·exact mn
 ·rcases(show b<128\/(128<=b/\b<=191)\/(128<=b/\¬b<=191)from V)with q|⟨q,d⟩|⟨q,d⟩;·obtain rfl:r=false:=mD;exact mH
  ·obtain rfl:r=true:=hi.2 V;exact mH
  ·obtain rfl:r=false:=mD;exact mH
def uN(xs:afs)(p:Int):Nat:=if 0<=p/\p<=xs.length then(wu (xs.drop p.toNat)).1 else 0
def uTo(xs:afs)(p:Int):Int:=if 0<=p/\p<=xs.length then p+(wu (xs.drop p.toNat)).2.1 else p
def uE(xs:afs)(p:Int):Nat:=if 0<=p/\p<=xs.length then(wu (xs.drop p.toNat)).2.2 else 2
def VX{xs:afs}{p:Nat}(h:p<=xs.length):uN xs p=(wu (xs.drop p)).1:=by unfold uN;rw[rG V];rfl
def Pu{xs:afs}{p:Nat}(h:p<=xs.length):uTo xs p=p+(wu (xs.drop p)).2.1:=by unfold uTo;rw[rG V];rfl
def VW{xs:afs}{p:Nat}(h:p<=xs.length):uE xs p=(wu (xs.drop p)).2.2:=by unfold uE;rw[rG V];rfl
def aaF{xs:afs}{p:Int}(h:p<0\/(xs.length:Int)<p):uN xs p=0:=by unfold uN;exact nQ
def Yq{xs:afs}{p:Int}(h:p<0\/(xs.length:Int)<p):uTo xs p=p:=by unfold uTo;exact nQ
def aaE{xs:afs}{p:Int}(h:p<0\/(xs.length:Int)<p):uE xs p=2:=by unfold uE;exact nQ
def VZ{L:afs}{k:Nat}{x:UInt8}(h:L[k]? =some x):L.drop k=x::L.drop (k+1):=by obtain⟨d,rfl⟩:=rQ.1 h;exact rM d
def TL(n:Nat)(h:n<256):bits BinOp.and IntKind.u8 (n:Int) 192=((n/64*64:Nat):Int):=by have:∀m:Fin 256,bits BinOp.and IntKind.u8 ((m.val:Nat):Int) 192=((m.val/64*64:Nat):Int):=bF;exact this ⟨n,h⟩
def V7(a:Nat):(zS a).1<=4/\(zS a).2<128:=by
 unfold zS;repeat' split
 all_goals simp
 all_goals omega
def Lh(A:aft)(n c B:Nat)(p:Nat)(xs:afs)(w:World)(F:Rd w B A n xs)(b6:p<=n)(b5:n<=1000000000):Calls Tryz.prog 182 #[.slice A n c,.int .i64 p] w fun e w'=>e=.returned (.tuple #[.int .i32 (wu (xs.drop p)).1,.int .i64 ((p:Int)+(wu (xs.drop p)).2.1),.int .i64 (wu (xs.drop p)).2.2])/\w=w':=by
 have t:(xs.drop p).length=n-p:=by rw[sU,F.1]
 have v:∀k x,(xs.drop p)[k]? =some x->∃g o,A=some ⟨g,o,none⟩/\w.cell? (rN g (o+(p+k)))=some (.int .u8 (x.toNat:Int)):=by intro k x j;rw[Ar]at j;have b3:=(rQ.1 j).1;have:=F.1;obtain⟨g,o,y,O,_,H,Y⟩:=F.at_ (k:=p+k) V;rw[j]at H;injection H with H;subst H;exact⟨g,o,O,Y⟩
 generalize xs.drop p=L at t v;clear F;cases L with
 |nil=>
  clear v;have a0:p=n:=by simp at t;omega
  subst a0;clear t;go_enter GY,EW;go_wp2;go_ret3;refine⟨?_,rfl⟩;simp[wu]
 |cons a r=>
  obtain⟨g,o,O,a6⟩:=v 0 a rfl;subst O;rw[sE]at a6;have E:=a.toNat_lt;have b4:r.length+1=n-p:=by simpa using t
  obtain⟨N,I,D⟩:∃N I,zS a.toNat=(N,I):=⟨_,_,rfl⟩;have Z:=V7 a.toNat;rw[D]at Z;obtain⟨a4,U⟩:=Z;simp only[]at a4 U;have q:=wE a r;rw[D]at q;simp only[]at q;obtain⟨T,X⟩:=sW (wu (a::r));rw[<-X]at q|-;have S:=rz D;have a2:=rz v;have a0:p<n:=V;have b7:((p:Int)==n)=false:=by simp;omega
  clear X D v t;by_cases W:N=0;·subst W;rw[rG rfl]at q;subst q;go_enter GY,EW;go_wp2_with fail;refine tZ (Ji a.toNat E _) ?_;rw[S.out];go_wp2_with fail;go_ret3;exact bK
  ·rw[rB W]at q;have ab:((N:Int)==0)=false:=by simp;omega
   go_enter GY,EW;go_wp2_with fail;refine tZ (Ji a.toNat E _) ?_;rw[S.out];go_wp2_with fail;go_loop [4,8] (fun a3 i=>∃k C:Nat,a3=.int .i32 C/\i=.int .i64 k/\1<=k/\k<=N/\k<=n-p/\((k=1/\C<128)\/(k=2/\C<8192)\/(k=3/\C<524288)\/(k=4/\C<33554432))/\Go.RowKit.Hid (T=uc a.toNat N (N-k) k C (r.drop (k-1)))) (fun _ i=>N-(intOf i).toNat);case atStart=>exact⟨1,I,rfl,rfl,V,V,V,.inl ⟨rfl,U⟩,rz q⟩
   case
    round=>
     obtain⟨k,C,rfl,rfl,an,aU,b2,az,l⟩:=hrel;clear q;by_cases a8:k=N;·subst a8;have d:=l.out;rw[GS,GJ]at d;subst d;clear l;go_wp2_with fail;go_ret3;exact bK
     ·have ar:k<N:=V;cases j:r[k-1]? with
      |none=>
       have a1:r.length<=k-1:=vE.1 j;have d:=l.out;rw[sx a1,show N-k=(N-k-1)+1 from V,aaH]at d;subst d;clear l j;have a9:((p:Int)+k==n)=true:=by simp;omega
       go_wp2_with fail;go_ret3;exact⟨bA,rfl⟩
      |some x=>
       have a1:=(rQ.1 j).1;have d:=l.out;rw[VZ j,show N-k=(N-(k+1))+1 from V,wa,show k-1+1=(k+1)-1 from V]at d;obtain⟨aa,b8,R,Y⟩:=a2.out k x (by rw[show k=(k-1)+1 from V,List.getElem?_cons_succ];exact j);injection R with R;injection R with e1 e2;subst e1 e2;have a9:((p:Int)+k==n)=false:=by simp;omega
       have b1:(p:Int)+k<n:=V;have G:=x.toNat_lt;by_cases hb:x.toNat/64≠2
       ·rw[rG (.inl hb)]at d;have HU:=rz d;clear l d j;have a5:¬bits BinOp.and IntKind.u8 (x.toNat:Int) 192=128:=by rw[TL _ G];omega
        clear hb;exact pg
       ·have a5:bits BinOp.and IntKind.u8 (x.toNat:Int) 192=128:=by rw[TL _ G];omega
        have ad:x.toNat/64=2:=V;clear hb;by_cases a7:k=1
        ·subst a7;have m:AP a.toNat x.toNat=true\/AP a.toNat x.toNat=false:=by cases AP a.toNat x.toNat<;>simp
         rcases m with m|m
         ·rw[rB (by rw[m];simp;omega)]at d;have HU:=rz d;have M:=rz m;clear m l d j;go_wp2_with fail;refine tZ (Ie a.toNat x.toNat E G _) ?_;rw[M.out];go_wp2_with fail;go_round;case rel=>exact⟨2,C*64+x.toNat%64,by first|rfl|(congr 1;omega),rfl,V,V,V,V,HU⟩
          case measure=>simp[intOf];omega
         ·rw[rG (.inr ⟨rfl,m⟩)]at d;have HU:=rz d;have M:=rz m;clear m l d j;go_wp2_with fail;refine tZ (Ie a.toNat x.toNat E G _) ?_;rw[M.out];exact pg
        ·rw[rB V]at d;have HU:=rz d;have b0:((k:Int)==1)=false:=by simp;omega
         clear l d j;go_wp2_with fail;go_round;case rel=>exact⟨k+1,C*64+x.toNat%64,by first|rfl|(congr 1;omega),rfl,V,V,V,V,HU⟩
         case measure=>simp[intOf];omega
def M8(A:aft)(n c B:Nat)(p:Int)(xs:afs)(w:World)(e:Rd w B A n xs)(k:n<=1000000000)(m: -9223372036854775808<=p)(r:p<=9223372036854775807):Calls Tryz.prog 182 #[.slice A n c,.int .i64 p] w (zW w (.tuple #[.int .i32 (uN xs p),.int .i64 (uTo xs p),.int .i64 (uE xs p)])):=by
 have j:=e.len;by_cases d:p<0\/(xs.length:Int)<p
 ·rw[aaF d,Yq d,aaE d];rw[j]at d;rcases(show p<0\/(0<=p/\(n:Int)<p)from V)with h|⟨h,l⟩;·go_enter GY,EW;go_wp2;go_ret3;exact bK
  ·go_enter GY,EW;go_wp2;go_ret3;exact bK
 ·obtain⟨q,rfl⟩:=uR (show 0<=p from V);rw[VX V,Pu V,VW V];exact Lh A n c B q xs w e V k
def Yr:Nat->afs->Option Nat
 |_,[]=>some 0
 |0,_::_=>none
 |f+1,a::r=>if(wu (a::r)).2.2=0 then(Yr f ((a::r).drop (wu (a::r)).2.1)).map (·+1)else none
def xk(L:afs):Option Nat:=Yr L.length L
def Dt{L:afs}(h:(wu L).2.2=0):1<=(wu L).2.1/\(wu L).2.1<=L.length:=by obtain⟨_,d,_,e⟩:=Va h;exact⟨d,e⟩
def Nf:∀(f d:Nat)(L:afs),L.length<=f->L.length<=d->Yr f L=Yr d L
 |f,d,[],_,_=>by cases f<;>cases d<;>rfl
 |0,_,_::_,h,_=>ic
 |_+1,0,_::_,_,h=>ic
 |f+1,d+1,a::r,h,j=>
 by
  unfold Yr;by_cases e:(wu (a::r)).2.2=0
  ·rw[rG e,rG e];have l:=Dt e;have k:((a::r).drop (wu (a::r)).2.1).length<=r.length:=by rw[sU];simp;omega
   simp at h j;rw[Nf f d _ V V]
  ·rw[rB e,rB e]
def Pv:xk []=some 0:=rfl
def JP{L:afs}(h:(wu L).2.2=0):xk L=(xk (L.drop (wu L).2.1)).map (·+1):=by
 have d:=Dt h;cases L with
 |nil=>cases h
 |cons a r=>have e:xk (a::r)=Yr (r.length+1) (a::r):=rfl;rw[e,Yr,rG h];congr 1;refine Nf _ _ _ ?_ rV;rw[sU];simp;omega
def Il{L:afs}(d:L≠ [])(h:(wu L).2.2≠0):xk L=none:=by
 cases L with
 |nil=>exact absurd rfl d
 |cons a r=>have e:xk (a::r)=Yr (r.length+1) (a::r):=rfl;rw[e,Yr,rB h]
def ucM(L:afs):Nat:=(xk L).getD 0
def ucE(L:afs):Nat:=if(xk L).isSome then 0 else 11
def G0(xs:afs)(q m:Nat):Prop:=m<=q/\xk xs=(xk (xs.drop q)).map (·+m)
def G0.zero(xs:afs):G0 xs 0 0:=⟨rZ _,by rw[zf];cases xk xs<;>rfl⟩
def G0.next{xs:afs}{q m:Nat}(h:G0 xs q m)(d:(wu (xs.drop q)).2.2=0):G0 xs (q+(wu (xs.drop q)).2.1) (m+1):=by have e:=Dt d;refine⟨lq,?_⟩;rw[h.2,JP d,Bf,Option.map_map];congr 1;funext z;simp;omega
def G0.done{xs:afs}{q m:Nat}(h:G0 xs q m)(d:xs.length<=q):xk xs=some m:=by rw[h.2,sx d,Pv];simp
def G0.bad{xs:afs}{q m:Nat}(h:G0 xs q m)(j:q<xs.length)(d:(wu (xs.drop q)).2.2≠0):xk xs=none:=by rw[h.2,Il (by intro e;have:=CF List.length e;rw[sU]at this;exact lw) d];rfl
def Rh(A:aft)(n c B:Nat)(xs:afs)(w:World)(t:Rd w B A n xs)(F:n<=1000000000):Calls Tryz.prog 140 #[.slice A n c] w (zW w (.tuple #[.int .i64 (ucM xs),.int .i64 (ucE xs)])):=by
 have O:=t.len;obtain⟨M,p⟩:=sW (ucM xs);obtain⟨C,l⟩:=sW (ucE xs);rw[<-p,<-l];have E:=rz p;have D:=rz l;clear p l;go_enter Tryz.func140,Tryz.ntmps140;go_wp2_with fail;go_loop [4,5] (fun m q=>∃I v:Nat,m=.int .i64 I/\q=.int .i64 v/\v<=n/\G0 xs v I) (fun _ q=>n-(intOf q).toNat);case atStart=>exact⟨0,0,rfl,rfl,V,G0.zero xs⟩
 case
  round=>
   obtain⟨m,q,rfl,rfl,G,e⟩:=hrel;have W:=e.1;by_cases S:q=n
   ·have r:=e.done V;have j:M=m:=by rw[E.out];unfold ucM;rw[r];rfl
    have k:C=0:=by rw[D.out];unfold ucE;rw[r];rfl
    subst j k S;clear e r;go_wp2_with fail;go_ret2;exact bK
   ·have U:(q:Int)<n:=V;by_cases d:(wu (xs.drop q)).2.2=0
    ·have H:=e.next d;have R:=Dt d;rw[sU,O]at R;have L:=rz d;have N:=rz H;clear d H e;go_wp2_with fail;refine tZ (Lh A n c B q xs w t G F) ?_;rw[L.out];go_wp2_with fail;go_round;case rel=>exact⟨m+1,q+(wu (xs.drop q)).2.1,bA,bA,V,N.out⟩
     case measure=>simp[intOf];omega
    ·have hb:=e.bad V d;have j:M=0:=by rw[E.out];unfold ucM;rw[hb];rfl
     have k:C=11:=by rw[D.out];unfold ucE;rw[hb];rfl
     subst j k;have X:(((wu (xs.drop q)).2.2:Int) !=0)=true:=by simp;exact d
     clear e hb d;go_wp2_with fail;refine tZ (Lh A n c B q xs w t G F) ?_;go_wp2_with fail;go_ret2;exact bK
def JF(A:aft)(n c B:Nat)(xs:afs)(w:World)(j:Rd w B A n xs)(h:n<=1000000000):Calls Tryz.prog 81 #[.slice A n c] w (zW w (.bool (xk xs).isSome)):=by
 have d:((ucE xs:Int)==0)=(xk xs).isSome:=by unfold ucE;cases xk xs<;>rfl
 have e:=rz d;clear d;go_enter Tryz.func81,Tryz.ntmps81;go_wp2_with fail;refine tZ (Rh A n c B xs w j h) ?_;go_wp2_with fail;go_ret;exact⟨by rw[<-e.out];rfl,rfl⟩
