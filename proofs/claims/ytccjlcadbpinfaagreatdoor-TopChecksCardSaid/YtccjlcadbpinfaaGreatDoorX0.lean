import Derived.Test.YtccjlcadbpinfaaGreatDoorRows
import Derived.WalkKit
import Derived.Laws.BitsAllLaws
import Derived.OrdersHeld
import Derived.Below
import Derived.WideKeyPair
import Derived.Maps.OwnSet
import Derived.ProofKit
import Derived.OpenShut
import Derived.Outline
import Derived.WalkLawsBesides
import Derived.Lib.Hide
import Derived.Deep.LoopGhost
set_option linter.all false
namespace Go.Proofs.YtccjlcadbpinfaaGreatDoor.Num
def YD(n:Int):Int:=if 0<=n then 2*n else-2*n-1
def YG{n:Int}(h:0<=n):YD n=2*n:=by simp[YD,h]
def YF{n:Int}(h:n<0):YD n= -2*n-1:=by unfold YD;rw[if_neg (by omega)]
def wrap_u64(n:Int):IntKind.u64.wrap n=n%18446744073709551616:=by simp[IntKind.wrap,IntKind.bits,IntKind.signed]
def VU(a:Int)(b:0<=a)(d:a<18446744073709551616):bits .xor .u64 a 0=a:=by obtain⟨n,rfl⟩:=Int.eq_ofNat_of_zero_le b;have h:=u64_xor_nat n 0 (by omega) (by omega);simpa using h
def XR(w a:Nat)(b:a<2^w):a^^^(2^w-1)=2^w-1-a:=by have h:=BitVec.toNat_not (x:=BitVec.ofNat w a);rw[<-BitVec.xor_allOnes]at h;rw[BitVec.toNat_xor,BitVec.toNat_ofNat,BitVec.toNat_allOnes,Nat.mod_eq_of_lt b]at h;exact h
def VV(a:Int)(d:0<=a)(e:a<18446744073709551616):bits .xor .u64 a 18446744073709551615=18446744073709551615-a:=by obtain⟨n,rfl⟩:=Int.eq_ofNat_of_zero_le d;have h:=u64_xor_nat n 18446744073709551615 (by omega) (by omega);have b:=XR 64 n (by omega);simp only[Nat.reducePow,Nat.reduceSub]at b;rw[b,show((18446744073709551615:Nat):Int)=18446744073709551615 from rfl]at h;omega
def VT(a:Int)(b:0<=a)(d:a<18446744073709551616):bits .and .u64 a 1=a%2:=by obtain⟨n,rfl⟩:=Int.eq_ofNat_of_zero_le b;have h:=u64_and_nat n 1 (by omega) (by omega);rw[nat_mask1]at h;simpa using h
def BP(u:Nat):Nat:=if u=0 then 0 else Nat.log2 u+1
def OJ:BP 0=0:=rfl
def RX{u:Nat}(h:0<u):BP u=BP (u/2)+1:=by
 unfold BP;rw[if_neg (by omega),Nat.log2_def];by_cases a:2<=u;·rw[if_pos a,if_neg (by omega)]
 ·rw[if_neg a,if_pos (by omega)]
def UZ{u k:Nat}(h:u<2^k):BP u<=k:=by
 unfold BP;by_cases a:u=0;·simp[a]
 ·rw[if_neg a];have:=(Nat.log2_lt a).2 h;omega
def parts(u:Nat):Nat:=max ((BP u+6)/7) 1
end Go.Proofs.YtccjlcadbpinfaaGreatDoor.Num
namespace Go.Proofs.YtccjlcadbpinfaaGreatDoor.Fits
def i64{n:Int}(h:(Lit.int .i64 n).wf=true): -9223372036854775808<=n/\n<=9223372036854775807:=by simp[Lit.wf,IntKind.min,IntKind.max,IntKind.signed,IntKind.bits]at h;omega
def u64{n:Int}(h:(Lit.int .u64 n).wf=true):0<=n/\n<=18446744073709551615:=by simp[Lit.wf,IntKind.min,IntKind.max,IntKind.signed,IntKind.bits]at h;omega
def i32{n:Int}(h:(Lit.int .i32 n).wf=true): -2147483648<=n/\n<=2147483647:=by simp[Lit.wf,IntKind.min,IntKind.max,IntKind.signed,IntKind.bits]at h;omega
def u32{n:Int}(h:(Lit.int .u32 n).wf=true):0<=n/\n<=4294967295:=by simp[Lit.wf,IntKind.min,IntKind.max,IntKind.signed,IntKind.bits]at h;omega
def u8{n:Int}(h:(Lit.int .u8 n).wf=true):0<=n/\n<=255:=by simp[Lit.wf,IntKind.min,IntKind.max,IntKind.signed,IntKind.bits]at h;omega
end Go.Proofs.YtccjlcadbpinfaaGreatDoor.Fits
namespace Go.Proofs.YtccjlcadbpinfaaGreatDoor.Can
open Go.RowKit
section
variable{P:Program}{ops:Array Oper}{Q:Exit->Act->World->Prop}{mk:List Nat}
section
variable{i:Nat}{k:List Nat}{r:Nat}{m l:List Nat}{d b:Nat}{a:Act}{w:World}
def L7(ops:Array Oper)(mk:List Nat):List Nat->Array Bool->Bool
 | [],a=>(Region.ready .any ops a).isEmpty
 |i::b,a=>(if mk.contains i then Region.ready .any ops a== [i]else Region.free .any ops a i&&(Region.ready .any ops a).contains i)&&L7 ops mk b (a.setIfInBounds i true)
def BB(P:Program)(ops:Array Oper)(Q:Exit->Act->World->Prop)(mk:List Nat):List Nat->Nat->Act->World->Prop
 | [],_,a,w=>Q .normal a w
 |i::e,g,a,w=>∃d,ops[i]? =some d/\∃b,g<=b/\if mk.contains i then wpOp P ops Q i (fun h w'=>Below b w w'/\BB P ops Q mk e b h w') a w else∃v,YieldsIf P ops (Below b w) d v a/\BB P ops Q mk e b (a.put d.dst v) w
def yx{S S':World->Prop}(h:∀w,S' w->S w):∀(b:Nat)(e:Array Bool)(a:Act)(w:World),wpAnyH P .any ops Q S' b e a w->wpAnyH P .any ops Q S b e a w
 |0,_,_,_,hh=>hh
 |b+1,_,_,_,hh=>⟨hh.1,fun i j=>wpOp_mono (fun g w' d=>⟨h _ d.1,yx h b _ g w' d.2⟩) (hh.2 i j)⟩
def FF(y:Region.noSelect ops=true)(t:∀c(a:Act) d v w,Q (.panic c) (a.put d v) w->Q (.panic c) a w):∀(g:List Nat)(b m:Nat)(l:Array Bool)(a:Act)(w:World),g.length<=b->L7 ops mk g l=true->BB P ops Q mk g m a w->wpAnyH P .any ops Q (Below m w) b l a w
 | [],b,m,l,a,w,_,n,h=>wpAnyH_done (by simpa[L7]using n) h b
 |i::g,b,m,l,a,w,o,n,h=>
 by
  obtain⟨b,rfl⟩:∃k,b=k+1:=⟨b-1,by simp at o;omega⟩;simp only[List.length_cons,Nat.add_le_add_iff_right]at o;obtain⟨K,D,q,C,p⟩:=h;simp only[L7,Bool.and_eq_true]at n;obtain⟨e,z⟩:=n;refine yx (S':=Below q w) (fun w' hb=>hb.mono C) _ _ _ _ ?_;by_cases A:mk.contains i=true
  ·rw[if_pos A]at e p;have F:Region.ready .any ops l=[i]:=by simpa using e
   refine wpAnyH_all F (by simp) fun j E=> ?_
   obtain rfl:j=i:=by simpa using E
   refine wpOp_mono (fun B w' r=>⟨r.1,?_⟩) p;exact yx (fun x H=>r.1.trans H) _ _ _ _ (FF y t g b q _ B w' o z r.2)
  ·rw[if_neg A]at e p;simp only[Bool.and_eq_true]at e;obtain⟨v,I,G⟩:=p;exact wpAnyH_take D y e.1 e.2 (fun c a w=>t c a _ v w) I (Below.refl _ _) (FF y t g b q _ _ w o z G)
def sT{l:Nat}{a:Act}{w:World}(b mk:List Nat)(j:P.follows .mixedOrders=true)(k:Region.noSelect ops=true)(i:b.length<=ops.size)(g:L7 ops mk b (Array.replicate ops.size false)=true)(e:∀c(a:Act) d v w,Q (.panic c) (a.put d v) w->Q (.panic c) a w)(h:∀wd:World,Below w.heap.size w wd->wd.heap.size=w.heap.size->BB P ops Q mk b 0 a wd):(Code.region l ops true).wp P Q a w:=wp_region_held (S:=Below 0 w.drew) j (FF k e b _ 0 _ a _ i g (h w.drew (Below.refl _ _).drew rfl))
def sQ(h:Q .normal a w):BB P ops Q mk [] b a w:=h
def tB{d:Option Tmp}{j:Op}{ty:TypeId}{k:String}{e:Array Edge}{g:Option (Nat×Bool)}(n:mk.contains i=false)(m:ops[i]? =some ⟨d,j,ty,k,e,g⟩)(o:Region.wanted ⟨d,j,ty,k,e,g⟩ (yielded ops a.tmps)=false)(h:BB P ops Q mk l b (a.put d undef) w):BB P ops Q mk (i::l) b a w:=⟨_,m,b,Nat.le_refl _,by rw[n,if_neg (by simp)];exact⟨undef,Or.inr ⟨o,rfl⟩,h⟩⟩
def L8{d:Option Tmp}{k:Op}{ty:TypeId}{l:String}{e:Array Edge}{g:Option (Nat×Bool)}(n:mk.contains i=true)(j:ops[i]? =some ⟨d,k,ty,l,e,g⟩)(o:Region.wanted ⟨d,k,ty,l,e,g⟩ (yielded ops a.tmps)=false)(h:BB P ops Q mk m b (a.put d undef) w):BB P ops Q mk (i::m) b a w:=⟨_,j,b,Nat.le_refl _,by rw[n,if_pos rfl];unfold wpOp;simp only[j,o];exact⟨Below.refl _ _,h⟩⟩
def tm{b:Option Tmp}{j:Op}{ty:TypeId}{k:String}{e:Array Edge}{g:Option (Nat×Bool)}(n:mk.contains i=false)(m:ops[i]? =some ⟨b,j,ty,k,e,g⟩)(o:Region.wanted ⟨b,j,ty,k,e,g⟩ (yielded ops a.tmps)=true){v:Value}(p:∀w',(execOp a.eval ⟨b,j,ty,k,e,g⟩).run P w'=.ok (.value v) w')(h:BB P ops Q mk l d (a.put b v) w):BB P ops Q mk (i::l) d a w:=⟨_,m,d,Nat.le_refl _,by rw[n,if_neg (by simp)];exact⟨v,Or.inl ⟨o,fun w' _=>p w'⟩,h⟩⟩
def tH{l:Nat}{a:Act}{w:World}{d:Option Tmp}{j:Op}{ty:TypeId}{k:String}{e:Array Edge}{g:Option (Nat×Bool)}(p:mk.contains i=false)(o:ops[i]? =some ⟨d,j,ty,k,e,g⟩)(q:Region.wanted ⟨d,j,ty,k,e,g⟩ (yielded ops a.tmps)=true)(b:Nat)(n:l<=b)(v:Value)(r:∀w',Below b w w'->(execOp a.eval ⟨d,j,ty,k,e,g⟩).run P w'=.ok (.value v) w')(h:BB P ops Q mk m b (a.put d v) w):BB P ops Q mk (i::m) l a w:=⟨_,o,b,n,by rw[p,if_neg (by simp)];exact⟨v,Or.inl ⟨q,r⟩,h⟩⟩
def QH{i:Oper}{a:Act}{w:World}{K j:Act->World->Prop}{g:Exit->Act->World->Prop}(h:∀a w,K a w->j a w)(k:∀c a w,¬g (.panic c) a w)(l:¬LetsOut g)(b:i.wp P a w K g):i.wp P a w j Q:=by
 unfold Oper.wp at*;generalize(execOp a.eval i).run P w=r at*;cases r with
 |ok n w'=>
  cases n<;>simp only[Oper.upon]at b|-<;>first
   |exact h _ _ b
   |exact Calls.mono b (fun e m d=>by cases e<;>first|exact h _ _ d|exact(k _ _ _ d).elim|exact(l d).elim)
   |exact Rows.mono b (fun _ _ d=>h _ _ d)
 |halt x w'=>cases x<;>simp only[Oper.upon]at b|-<;>exact(k _ _ _ b).elim
def tc{m:Option Tmp}{o:Op}{ty:TypeId}{p:String}{l:Array Edge}{n:Option (Nat×Bool)}(C:mk.contains i=true)(t:ops[i]? =some ⟨m,o,ty,p,l,n⟩)(d:Nat)(A:r<=d)(h:∀q:Exit->Act->World->Prop,(∀b w',Below d w w'->BB P ops Q mk k d b w'->q .normal b w')->wpList P ops q [⟨m,o,ty,p,l,n⟩] a w):BB P ops Q mk (i::k) r a w:=by
 refine⟨_,t,d,A,?_⟩;rw[C,if_pos rfl];have g:=h (fun e b w'=>e=.normal/\Below d w w'/\BB P ops Q mk k d b w') (fun b w' y z=>⟨rfl,y,z⟩);have D:∀c(b:Act)(w':World),¬((Exit.panic c)=.normal/\Below d w w'/\BB P ops Q mk k d b w'):=fun c b w' j=>by cases j.1
 have v:¬LetsOut (fun e b w'=>e=Exit.normal/\Below d w w'/\BB P ops Q mk k d b w'):=fun⟨b,w',j⟩=>by cases j.1
 unfold wpOp;simp only[t];unfold wpList at g;by_cases x:Region.wanted ⟨m,o,ty,p,l,n⟩ (yielded ops a.tmps)=true
 ·rw[if_pos x]at g|-;rcases g with g|⟨_,B⟩;·exact .inl (QH (fun b w' j=>j.2) D v g)
  ·exact(v B).elim
 ·rw[if_neg x]at g|-;exact g.2
end
end
end Go.Proofs.YtccjlcadbpinfaaGreatDoor.Can
namespace Go.Proofs.YtccjlcadbpinfaaGreatDoor.Tp
open Go.ChangeShapes Go.WideShapes Go.RowKit Go.WideMaps Go.ChangeMaps
set_option maxRecDepth 100000
open Go.Maps (IsMap has size Tidy)
def abA:ArrKey Tryz.prog 113 3 2:=⟨Tryz.underlying113,by kernel_rfl,by kernel_rfl,by kernel_rfl⟩
def aad:Maps.Keyed Tryz.prog 113:=Maps.Keyed.of_law abA.law
def kvP(p:Int×Int):Value:=.agg #[.int .i64 p.1,.int .i64 p.2]
def UM(p:Int×Int):Lit:=.string (keyBytes [.int .i64 p.1,.int .i64 p.2])
def D5(a:Int):Prop:=(Lit.int .i64 a).wf=true
def Gv{p:Int×Int}(a:D5 p.1)(b:D5 p.2):keyOf Tryz.prog 113 (kvP p)=some (UM p):=keyOf_pair abA Tryz.underlying3 ⟨_,rfl⟩ a b
def XJ{p q:Int×Int}(e:D5 p.1)(g:D5 p.2)(i:D5 q.1)(j:D5 q.2)(h:UM p=UM q):p=q:=by have:=aad.inj (Gv e g) (h▸Gv i j);obtain⟨a,b⟩:=p;obtain⟨c,d⟩:=q;simp only[kvP,Value.agg.injEq,Array.mk.injEq,List.cons.injEq,Value.int.injEq,true_and,and_true]at this;rw[this.1,this.2]
def IU:List (Int×Int)->DataW Unit
 | []=>.map []
 |p::l=>(IU l).put (UM p) (.lit (.bool true))
def KP:∀l,IsMap (IU l)
 | []=>Maps.isMap_empty
 |_::l=>(KP l).put _ _
def Jv:∀l,Tidy (IU l)
 | []=>Maps.tidy_empty
 |p::l=>(Jv l).put (k:=UM p) trivial _
def PIn(l:List (Int×Int)):Prop:=∀p∈l,D5 p.1/\D5 p.2
def KO{p:Int×Int}(a:D5 p.1)(b:D5 p.2):∀l,PIn l->(IU l).atKey (UM p) (.lit (.bool false))=.lit (.bool (l.contains p))/\has (IU l) (UM p)=l.contains p
 | [],_=>⟨rfl,rfl⟩
 |q::l,h=>
 by
  have g:=KO a b l fun x n=>h x (List.mem_cons_of_mem _ n)
  obtain⟨i,j⟩:=h q (List.mem_cons_self ..);by_cases e:p=q;·subst e;simp only[IU];rw[Maps.atKey_put_same (k:=UM p) (KP l) trivial,Maps.has_put_same (k:=UM p) (KP l) trivial];simp
  ·have d:UM p≠UM q:=fun m=>e (XJ a b i j m)
   simp only[IU];rw[Maps.atKey_put_other d,Maps.has_put_other d,g.1,g.2];simp[e]
def Ju:∀l,PIn l->l.Pairwise (·≠·)->size (IU l)=l.length
 | [],_,_=>rfl
 |q::l,h,g=>
 by
  obtain⟨j,k⟩:=List.pairwise_cons.1 g;obtain⟨d,e⟩:=h q (List.mem_cons_self ..);have b:PIn l:=fun x i=>h x (List.mem_cons_of_mem _ i)
  have a:l.contains q=false:=by rw[Bool.eq_false_iff];intro a;exact j q (by simpa using a) rfl
  simp only[IU];rw[Maps.size_put (Jv l),(KO d e l b).2,a,Ju l b k];rfl
def Rk{v:Value}{x:Lit}{a:List MemPlace}(h:plainElem (H:=Unit) Tryz.prog 4 v=some (.lit x,a)):∃b,v=.bool b/\x=.bool b:=by unfold plainElem at h;rw[Tryz.underlying4]at h;cases v<;>simp at h;exact⟨_,rfl,h.1.symm⟩
structure CC(w:World)(b:Nat)(l:List (Int×Int)):Prop where
 own:w.ownsMap Tryz.prog 113 (plainElem (H:=Unit) Tryz.prog 4) b l.length (IU l)
 inn:PIn l
 nod:l.Pairwise (·≠·)
section
variable{w w':World}{b:Nat}{l:List (Int×Int)}
def HW(w:World):CC (w.alloc (.map #[] 0)) w.heap.size []:=⟨World.ownsMap_made w _ _ _,(fun p a=>by cases a),List.Pairwise.nil⟩
def CC.keep(h:CC w b l)(hb:w'.heap[b]? =w.heap[b]?):CC w' b l:=by obtain⟨a,cl,d,e⟩:=h.own;exact⟨⟨a,cl,hb.trans d,e⟩,h.inn,h.nod⟩
def CC.lt(h:CC w b l):b<w.heap.size:=h.own.lt
def SO(w:World):(zeroValue 4).run Tryz.prog w=.ok (.bool false) w:=by kernel_rfl
def CC.look(h:CC w b l){i k:Int}(d:D5 i)(e:D5 k):(Instr.lookup 109 (.map (some b)) (.agg #[.int .i64 i,.int .i64 k]) false).run Tryz.prog w=.ok (.bool (l.contains (i,k))) w:=by obtain⟨v,m,j,g⟩:=h.own.lookup aad Tryz.underlying109 (SO w) (plainElem_bool Tryz.underlying4 false) (Gv (p:=(i,k)) d e);rw[(KO (p:=(i,k)) d e l h.inn).1]at g;obtain⟨x,rfl,a⟩:=Rk g;injection a with a;rw[a];exact j
def CC.len(h:CC w b l)(ty:TypeId):(Builtin.len_ #[109] ty #[.map (some b)]).run Tryz.prog w=.ok (.int .i64 (l.length:Int)) w:=by have:=h.own.len Tryz.underlying109 ty;rwa[Ju l h.inn h.nod]at this
def CC.put(h:CC w b l){i k:Int}(d:D5 i)(g:D5 k)(j:l.contains (i,k)=false)(m:l.length<maxLen):∃w',(Instr.mapUpdate 109 (.map (some b)) (.agg #[.int .i64 i,.int .i64 k]) (.bool true)).run Tryz.prog w=.ok () w'/\CC w' b ((i,k)::l)/\w.mapTurned w' b:=by
 obtain⟨w',o,n,q⟩:=h.own.store aad Tryz.underlying109 m (Gv (p:=(i,k)) d g) (plainElem_bool Tryz.underlying4 true);refine⟨w',o,⟨n,fun p a=> ?_,List.pairwise_cons.2 ⟨fun p a e=> ?_,h.nod⟩⟩,q⟩
 ·rcases List.mem_cons.1 a with rfl|a;·exact⟨d,g⟩
  ·exact h.inn p a
 ·subst e;have:l.contains (i,k)=true:=by simpa using a
  rw[this]at j;cases j
end
end Go.Proofs.YtccjlcadbpinfaaGreatDoor.Tp
namespace Go.Proofs.YtccjlcadbpinfaaGreatDoor.Zg
open ChangeShapes WideShapes ChangeAt RowKit
open Num
def AZ{k:IntKind}{a b:Int}(h:a=b):Ending.returned (.int k a)=.returned (.int k b):=by rw[h]
def Nl(n:Int)(a:0<=n)(b:n<=9223372036854775807):bits BinOp.xor IntKind.u64 (IntKind.u64.wrap (IntKind.u64.wrap n*2)) (IntKind.u64.wrap (n/9223372036854775808))=YD n:=by rw[wrap_u64,wrap_u64,wrap_u64,show n/9223372036854775808%18446744073709551616=0 by omega,VU _ (by omega) (by omega),YG a];omega
def Nk(n:Int)(a:n<0)(b: -9223372036854775808<=n):bits BinOp.xor IntKind.u64 (IntKind.u64.wrap (IntKind.u64.wrap n*2)) (IntKind.u64.wrap (n/9223372036854775808))=YD n:=by rw[wrap_u64,wrap_u64,wrap_u64,show n/9223372036854775808%18446744073709551616=18446744073709551615 by omega,VV _ (by omega) (by omega),YF a];omega
def YH(n:Int)(a: -9223372036854775808<=n)(b:n<=9223372036854775807):bits BinOp.xor IntKind.u64 (IntKind.u64.wrap (IntKind.u64.wrap n*2)) (IntKind.u64.wrap (n/9223372036854775808))=YD n:=by
 by_cases h:0<=n;·exact Nl n h b
 ·exact Nk n (by omega) a
def YE(n:Int)(a: -9223372036854775808<=n)(b:n<=9223372036854775807)(w:World):Calls Tryz.prog 180 #[.int .i64 n] w fun e w'=>e=.returned (.int .u64 (YD n))/\w=w':=by go_enter Tryz.func180,Tryz.ntmps180;go_wp2;go_ret;exact⟨AZ (YH n a b),rfl⟩
def Left(n c u:Nat):Prop:=c+BP u=BP n/\u<=n
def RT{n c u:Nat}(h:Left n c u)(a:0<u):Left n (c+1) (u/2):=by obtain⟨b,d⟩:=h;have:=RX a;exact⟨by omega,by omega⟩
def UQ{n c:Nat}(h:Left n c 0):c=BP n:=by obtain⟨a,_⟩:=h;rw[OJ]at a;omega
def XL{n c u:Nat}(b:n<=18446744073709551615)(h:Left n c u):c<=64/\u<=n:=by obtain⟨a,d⟩:=h;have:=UZ (u:=n) (k:=64) (by omega);omega
def TT(n:Nat)(b:n<=18446744073709551615)(w:World):Calls Tryz.prog 260 #[.int .u64 n] w fun e w'=>e=.returned (.int .i64 (BP n))/\w=w':=by
 go_enter Tryz.func260,Tryz.ntmps260;go_wp2;go_step3;go_wp2;go_step3;go_wp2;go_loop [0,3] (fun u c=>∃k j:Nat,Left n j k/\u=.int .u64 k/\c=.int .i64 j) (fun u _=>(intOf u).toNat);case atStart=>exact⟨n,0,⟨by simp,by omega⟩,rfl,rfl⟩
 case
  round=>
   obtain⟨k,j,a,rfl,rfl⟩:=hrel;have hb:=XL b a;by_cases g:0<k
   ·have h:=RT a g;go_wp2;go_round;case rel=>exact⟨k/2,j+1,h,by go_num,by go_num⟩
    case measure=>simp[intOf];omega
   ·obtain rfl:k=0:=by omega
    have d:=Lib.hid (UQ a);go_wp2;go_ret;exact⟨AZ (by rw[d.out]),rfl⟩
end Go.Proofs.YtccjlcadbpinfaaGreatDoor.Zg
namespace Go.Proofs.YtccjlcadbpinfaaGreatDoor.ZgW
open ChangeShapes WideShapes ChangeAt RowKit
open Num Zg
end Go.Proofs.YtccjlcadbpinfaaGreatDoor.ZgW
namespace Go.Proofs.YtccjlcadbpinfaaGreatDoor.ProN
open Num
def LA(u d:Nat):Nat:=if d=0 then u else if 64<d then 0 else if 2^(d-1)<u%2^d\/(u%2^d=2^(d-1)/\u/2^d%2=1)then u/2^d+1 else u/2^d
def N9(u d:Nat)(h:u<2^64):u&&&(18446744073709551615-u/2^d*2^d)=u%2^d:=by
 have hb:u/2^d*2^d<2^64:=Nat.lt_of_le_of_lt (Nat.div_mul_le_self u (2^d)) h;have e:18446744073709551615-u/2^d*2^d=2^64-(u/2^d*2^d+1):=by omega
 rw[e];apply Nat.eq_of_testBit_eq;intro i;rw[Nat.testBit_and,Nat.testBit_two_pow_sub_succ hb,Nat.testBit_mod_two_pow,<-Nat.shiftLeft_eq,Nat.testBit_shiftLeft,Nat.testBit_div_two_pow];by_cases g:i<d
 ·have a:i<64\/¬i<64:=by omega
  rcases a with a|a;·simp[g,a,show¬d<=i by omega]
  ·have b:u.testBit i=false:=Nat.testBit_lt_two_pow (Nat.lt_of_lt_of_le h (Nat.pow_le_pow_right (by omega) (by omega)));simp[b]
 ·simp[g,show d<=i by omega,show i-d+d=i by omega];intro b _;exact b
def NQ(u d:Nat)(a:u<=18446744073709551615):bits BinOp.andNot IntKind.u64 (u:Int) (IntKind.u64.wrap (((u/2^d:Nat):Int)*2^d))=((u%2^d:Nat):Int):=by
 have hb:u/2^d*2^d<=u:=Nat.div_mul_le_self u (2^d);have e:IntKind.u64.wrap (((u/2^d:Nat):Int)*2^d)=((u/2^d*2^d:Nat):Int):=by rw[wrap_u64,show((2:Int)^d)=((2^d:Nat):Int)by simp,<-Int.natCast_mul];omega
 rw[e,u64_andNot_nat _ _ (by omega) (by omega),N9 u d (by omega)]
def Us(d:Nat)(e:1<=d)(g:d<=64):IntKind.u64.wrap ((2:Int)^(d-1))=((2^(d-1):Nat):Int):=by have a:2^(d-1)<=2^63:=Nat.pow_le_pow_right (by omega) (by omega);rw[wrap_u64,show((2:Int)^(d-1))=((2^(d-1):Nat):Int)by simp];have b:0<2^(d-1):=Nat.pow_pos (by omega);generalize 2^(d-1)=H at a b|-;omega
def div_val(u d:Nat):(u:Int)/2^d=((u/2^d:Nat):Int):=by rw[show((2:Int)^d)=((2^d:Nat):Int)by simp,Int.natCast_ediv]
def high(u:Nat):Nat:=Nat.log2 u
def H3{u:Nat}(h:0<u):BP u=high u+1:=by unfold BP high;rw[if_neg (by omega)]
def Xq(u:Nat):u<2^(high u+1):=Nat.lt_log2_self
def Cj{u k:Nat}(a:0<u)(h:u<2^(k+1)):high u<=k:=by have:=(Nat.log2_lt (by omega:u≠0)).2 h;unfold high;omega
def Gi(u digits:Nat):Nat:=if high u<=digits then u*2^(digits-high u)else LA u (high u-digits)
def UT(u bias digits:Nat):Nat:=(bias+high u-1)*2^digits+Gi u digits
def Ej(n:Int)(a bias digits:Nat):Nat:=if n=0 then 0 else(if n<0 then a else 0)+UT n.natAbs bias digits
def aav(u d:Nat):LA u d<=u/2^d+1:=by
 unfold LA;by_cases a:d=0;·subst a;simp
 ·rw[if_neg a];split;·exact Nat.zero_le _
  ·split<;>omega
def KN(u digits:Nat):Gi u digits<=2^(digits+1):=by
 have a:=Xq u;unfold Gi;by_cases h:high u<=digits
 ·rw[if_pos h];calc u*2^(digits-high u)<=2^(high u+1)*2^(digits-high u):=Nat.mul_le_mul_right _ (Nat.le_of_lt a)
   _=2^(digits+1):=by rw[<-Nat.pow_add];congr 1;omega
 ·rw[if_neg h];refine Nat.le_trans (aav u _) ?_;have:u/2^(high u-digits)<2^(digits+1):=by rw[Nat.div_lt_iff_lt_mul (Nat.pow_pos (by omega)),<-Nat.pow_add,show digits+1+(high u-digits)=high u+1 by omega];exact a
  omega
def UU{u bias digits:Nat}(g:high u<=63)(hb:bias<=1023)(d:digits<=52):UT u bias digits<9223372036854775808:=by unfold UT;have a:=KN u digits;have b:2^digits<=2^52:=Nat.pow_le_pow_right (by omega) d;have e:(bias+high u-1)*2^digits<=1085*2^52:=Nat.mul_le_mul (by omega) b;rw[Nat.pow_succ]at a;omega
def UW{u:Nat}(d:high u<=63):UT u 127 23<2147483648:=by unfold UT;have a:=KN u 23;have b:(127+high u-1)*2^23<=189*2^23:=Nat.mul_le_mul (by omega) (Nat.le_refl _);omega
