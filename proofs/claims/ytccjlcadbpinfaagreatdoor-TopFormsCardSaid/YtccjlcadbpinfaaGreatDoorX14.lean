import Derived.Test.YtccjlcadbpinfaaGreatDoorX12
import Derived.Test.YtccjlcadbpinfaaGreatDoorX13
set_option linter.all false
set_option maxRecDepth 100000
set_option maxHeartbeats 8000000
namespace Go.Proofs.YtccjlcadbpinfaaGreatDoor.Tp
open ChangeShapes WideShapes ChangeAt RowKit
open Num Mem Can
def Vo{a b:List acM}(h:DN a=DN b):a=b:=by
 have:∀(a b:List acM),DN a=DN b->a=b:=by
  intro a;induction a with
  |nil=>intro b h;cases b with|nil=>rfl|cons y b=>simp[DN]at h
  |cons x a e=>
   intro b h;cases b with
   |nil=>simp[DN]at h
   |cons y b=>
    simp only[DN,uH,List.cons.injEq,ByteArray.mk.injEq]at h;have d:x=y:=by simpa using vy Array.toList h.1
    rw[d,e b h.2]
 exact this a b h
def It{X Y:acO}{A A':acN}{n c n' c':Nat}{ks d:List acM}(w:World)(h:Row w X 1 A n (uF ks))(i:Row w Y 1 A' n' (uF d))(v:n<=1000000000)(x:n'<=1000000000):Calls Tryz.prog 38 #[.slice A n c,.slice A' n' c'] w fun e w'=>e=.returned (.bool (decide (ks=d)))/\acP w w':=by
 have hl:ks.length=n:=nP;have g:d.length=n':=by have:=i.len;exact cN
 by_cases l:n=0
 ·subst l;have:ks=[]:=rI hl;subst this;refine(Tryz.slices_Equal_string_empty A A' c n' c' w V).mono fun _ _ h=>⟨?_,h.2▸Below.refl _ _⟩
  rw[h.1];congr 2;cases d<;>simp_all<;>omega
 ·obtain⟨b,off,rfl,o⟩:=F0 h V;by_cases m:n'=0
  ·subst m;have:d=[]:=rI g;subst this;have k:(decide (ks=[]))=false:=by cases ks<;>simp_all
   rw[k];have t:Calls Tryz.prog 38 #[.slice (some ⟨b,off,none⟩) n c,.slice A' 0 c'] w fun e w'=>e=.returned (.bool false)/\acP w w':=by have y:((n:Int)==0)=false:=rr.2 V;go_enter Tryz.func38,Tryz.ntmps38;exact cU
   exact t
  ·obtain⟨j,AW,rfl,p⟩:=F0 i V;refine(Tryz.slices_Equal_string b off n c j AW n' c' (DN ks) (DN d) w iV (by simp[DN,g]) V V o p).mono fun _ _ h=>⟨?_,?_⟩
   ·rw[h.1,xQ iV,xQ (by simp[DN,g])];congr 2;rw[zj];exact⟨Vo,fun h=>by rw[h]⟩
   ·obtain⟨q,r⟩:=h.2;rw[r];exact vK.drewN q
mutual
def Br:J->J->Bool
 | .mk k i t l ks,.mk d b g l' e=>decide (k=d)&&decide (i=b)&&decide (t=g)&&decide (ks=e)&&AJ l l'
def AJ:List J->List J->Bool
 | [],[]=>true
 |x::r,y::s=>Br x y&&AJ r s
 |_,_=>false
end
def Sj(N:Nat):Prop:=∀(a b:J),SizeOf.sizeOf a<=N->∀(w:World)(X:acO)(k i:Int)(t:ByteArray)(A:acN)(n c:Nat)(A':acN)(n' c':Nat)(j h:Int)(o:ByteArray)(B:acN)(m d:Nat)(B':acN)(l g:Nat),uf w X (jv k i t A n c A' n' c') a->uf w X (jv j h o B m d B' l g) b->(∀b,X b->b<w.heap.size)->Calls Tryz.prog 39 #[jA k i t A n c A' n' c',jA j h o B m d B' l g] w fun e w'=>e=.returned (.bool (Br a b))/\acP w w'
def MP(N:Nat)(b9:Sj N)(w:World)(X:acO){A B:acN}{n c m d:Nat}{css t:List (List Value)}{l l':List J}(c4:∀x∈l,SizeOf.sizeOf x<=N)(hr:Row w X 5 A n css)(bv:css.length=l.length)(bn:∀(i:Nat)(h:i<css.length)(b8:i<l.length),uf w X css[i] l[i])(b2:Row w X 5 B m t)(bx:t.length=l'.length)(bp:∀(i:Nat)(h:i<t.length)(b8:i<l'.length),uf w X t[i] l'[i])(hX:∀b,X b->b<w.heap.size)(ch:n<=100000000)(cf:m<=100000000):Calls Tryz.prog 86 #[.slice A n c,.slice B m d,.func (.func 39) #[] #[]] w fun e w'=>e=.returned (.bool (AJ l l'))/\acP w w':=by
 have b1:l.length=n:=cM;have bO:l'.length=m:=by have:=b2.len;omega
 have bz:∀(a b:List J),a.length≠b.length->AJ a b=false:=by
  intro a;induction a with
  |nil=>intro b h;cases b with|nil=>exact absurd rfl h|cons y b=>rfl
  |cons x a c5=>intro b h;cases b with|nil=>rfl|cons y b=>simp only[AJ,c5 b dC,Bool.and_false]
 obtain⟨R,K⟩:∃R,R=AJ l l':=⟨_,rfl⟩;rw[<-K];have a4:=rq K;clear K;by_cases c3:n=m
 ·subst c3;go_enter Tryz.func86,Tryz.ntmps86;go_wp2_with fail;go_loopw [17] (fun a1 wr=>∃(j:Nat),a1=.int .i64 j/\j<=n/\R=AJ (l.drop j) (l'.drop j)/\acP w wr) (fun a1 _=>n-(intOf a1).toNat);case atStart=>exact⟨0,rfl,rO _,a4.out,Below.refl _ _⟩
  case
   round=>
    obtain⟨j,rfl,cb,an,vu⟩:=hrel;have F:=rq an;clear an;by_cases aU:j<n
    ·obtain⟨g,p,x,T,O,a2,z,W,c1,C,Y,c2,rfl,bj,hx,br,aa,ab,ac,ad,af⟩:=yZ hr bv bn aU;obtain⟨k,r,y,U,S,a3,D,Z,H,E,a0,I,rfl,bk,M,bs,a5,a6,a7,a8,a9⟩:=yZ b2 bx bp aU;have o:=hX g bj;have q:=hX k bk;have cj:=(vu.cell (p:=⟨g,p+j*5,none⟩) o).trans aa;have cl:=(vu.cell (p:=⟨g,p+j*5+1,none⟩) o).trans ab;have cp:=(vu.cell (p:=⟨g,p+j*5+2,none⟩) o).trans ac;have cr:=(vu.cell (p:=⟨g,p+j*5+3,none⟩) o).trans ad;have cs:=(vu.cell (p:=⟨g,p+j*5+4,none⟩) o).trans af;have s0:=(vu.cell (p:=⟨k,r+j*5,none⟩) q).trans a5;have s1:=(vu.cell (p:=⟨k,r+j*5+1,none⟩) q).trans a6;have s2:=(vu.cell (p:=⟨k,r+j*5+2,none⟩) q).trans a7;have ct:=(vu.cell (p:=⟨k,r+j*5+3,none⟩) q).trans a8;have cx:=(vu.cell (p:=⟨k,r+j*5+4,none⟩) q).trans a9;have ci:=vu.size;have c8:g<wr.heap.size:=V;have c9:k<wr.heap.size:=V;have be:=((acQ wr).al rT (jC T O a2 z W c1 C Y c2)).alloc bi (jC U S a3 D Z H E a0 I);have v:=vu.sV rT be;have Em:j<l.length:=V;have ar:j<l'.length:=V;have L:l[j]=x:=fM;have b5:l'[j]=y:=by rw[ry ar]at M;injection M
     have b4:R=(Br x y&&AJ (l.drop (j+1)) (l'.drop (j+1))):=by rw[F.out,rH Em,rH ar,L,b5];rfl
     have b3:=b9 x y (c4 x (L▸rY Em)) ((wr.alloc (jC T O a2 z W c1 C Y c2)).alloc (jC U S a3 D Z H E a0 I)) X T O a2 z W c1 C Y c2 U S a3 D Z H E a0 I (br.stay v hX) (bs.stay v hX) (fun b hb=>ey);have cc:(j:Int)<(n:Int):=V;have G:=rq b4;clear b4 F aa ab ac ad af a5 a6 a7 a8 a9 hx M L b5;generalize Br x y=b7 at*;go_wp2_with fail;refine b3.mono ?_;rintro e' cy ⟨rfl,ak⟩;have AZ:=v.sV bi ak;clear b3 ak v;cases b7
     ·obtain rfl:R=false:=by rw[G.out];rfl
      exact bR
     ·have h:=G.out;rw[rU]at h;have b6:=rq h;clear h G;go_wp2_with fail;refine⟨⟨j+1,bi,V,b6.out,AZ⟩,?_⟩;exact bK
    ·have b0:j=n:=V;obtain rfl:R=true:=by rw[F.out,b0,<-b1,ze,b1,<-bO,ze];rfl
     subst b0;exact bW
 ·obtain rfl:R=false:=by rw[a4.out];exact bz l l' V
  have c6:((n:Int)==(m:Int))=false:=rr.2 V;have c7:¬(n:Int)=(m:Int):=V;go_enter Tryz.func86,Tryz.ntmps86;exact cU
def K8:∀N,Sj N:=by
 intro N;induction N with
 |zero=>intro a b S;cases a;simp at S
 |succ N bn=>
  intro a b S w X k i t A n c A' n' c' g e cb B m d B' y r b4 b5 hX;cases b4 with
  |mk bk bj b9 be c4 c5 b8 c3=>
   rename_i text items keys css;cases b5 with
   |mk b3 b2 b0 b1 bv bx aU bs=>
    rename_i o E Y br;simp only[J.mk.sizeOf_spec]at S;obtain⟨R,L⟩:∃R,R=Br (.mk k i text items keys) (.mk g e o E Y):=⟨_,rfl⟩;rw[<-L];have Z:=rq (show R=(decide (k=g)&&decide (i=e)&&decide (text=o)&&decide (keys=Y)&&AJ items E)from L);clear L;have tm:=((acQ w).al rT (jC k i ⟨text.toArray⟩ A n c A' n' c')).alloc bi (jC g e ⟨o.toArray⟩ B m d B' y r);have a4:=(vC.new w k i ⟨text.toArray⟩ A n c A' n' c' w.heap.size rfl).below (vK.alloc rT (jC g e ⟨o.toArray⟩ B m d B' y r)) bi;have a5:=vC.new (w.alloc (jC k i ⟨text.toArray⟩ A n c A' n' c')) g e ⟨o.toArray⟩ B m d B' y r (w.heap.size+1) bi;have c6:w.heap.size+1<((w.alloc (jC k i ⟨text.toArray⟩ A n c A' n' c')).alloc (jC g e ⟨o.toArray⟩ B m d B' y r)).heap.size:=bi;go_enter Tryz.func39,Tryz.ntmps39;go_upto_region 1 with fail;generalize(w.alloc (jC k i ⟨text.toArray⟩ A n c A' n' c')).alloc (jC g e ⟨o.toArray⟩ B m d B' y r)=w1 at*;obtain⟨⟨a6,a7,a8,a0,a9⟩,aa⟩:=a4;obtain⟨⟨ab,ac,ad,a1,af⟩,ak⟩:=a5;have U:=It w1 (yD be tm hX) (yD b1 tm hX) V V (c:=c') (c':=r);obtain⟨F,K⟩:∃F,F=decide (keys=Y):=⟨_,rfl⟩;rw[<-K]at U;have M:=Z.out;rw[<-K]at M;have z:=rq M;clear K M Z;by_cases H:k=g
    ·subst H;by_cases I:i=e
     ·subst I;have O:=z.out;simp only[xK,rU]at O;have C:=rq O;clear O z;by_cases a3:text=o;rotate_left
      ·obtain rfl:R=false:=by rw[C.out];simp[a3]
       exact bL
      ·subst a3;go_wp2_with fail;refine U.mono ?_;rintro e' bp ⟨rfl,D⟩;have c7:=D.size;have v:=tm.sV V D;have c8:=(D.cell (p:=⟨w.heap.size,3,none⟩) bd).trans a0;have c9:=(D.cell (p:=⟨w.heap.size+1,3,none⟩) bd).trans a1;clear U a6 a7 a8 a0 a9 aa ab ac ad a1 af ak;cases F
       ·obtain rfl:R=false:=by rw[C.out];rfl
        go_wp2_with fail;go_ret;exact⟨rfl,v⟩
       ·have a2:R=AJ items E:=by rw[C.out];simp
        have T:=MP N bn bp X (c:=c) (d:=d) (l:=items) (l':=E) (fun x hx=>fv) (bk.keep (fun q W=>v.cell (hX _ W)) (fun _ h=>h)) bj (fun j h G=>(b9 j h G).stay v hX) (b3.keep (fun q W=>v.cell (hX _ W)) (fun _ h=>h)) b2 (fun j h G=>(b0 j h G).stay v hX) (fun b hb=>bl) b8 aU;rw[<-a2]at T;clear a2 C;go_wp2_with fail;refine T.mono ?_;rintro e' cc ⟨rfl,b6⟩;have b7:=v.sV V b6;clear T;go_wp2_with fail;go_ret;exact⟨rfl,b7⟩
     ·have bO:(i==e)=false:=rr.2 I;have ar:decide (i=e)=false:=by simp[I]
      obtain rfl:R=false:=by rw[z.out,ar];simp
      exact bL
    ·have bz:(k==g)=false:=rr.2 H;have an:decide (k=g)=false:=by simp[H]
     obtain rfl:R=false:=by rw[z.out,an];simp
     exact bL
def OS{k:Nat}:∀(l:List (List Value))(j:Nat)(u:Value),(∀cs∈l,cs.length=k)->l.flatten[j]? =some u->∃i cs q,l[i]? =some cs/\cs[q]? =some u/\j=i*k+q
 | [],j,u,_,h=>fW
 |a::l,j,u,b,h=>
 by
  have g:=b a bi;rw[tJ]at h;by_cases n:j<k;·rw[DJ V]at h;exact⟨0,a,j,rfl,h,V⟩
  ·rw[yN V,g]at h;obtain⟨i,cs,q,d,e,m⟩:=OS l (j-k) u (fun cs hc=>b cs kQ) h;exact⟨i+1,cs,q,by simpa using d,e,by rw[AP];omega⟩
def IN{k:Nat}:∀(l:List (List Value)),(∀cs∈l,cs.length=k)->l.flatten.length=l.length*k
 | [],_=>bi
 |a::l,b=>by rw[tJ,rC,b a bi,IN l (fun cs hc=>b cs kQ),rM,AP];omega
def Row.C2{w:World}{X:acO}{k:Nat}{A:acN}{n:Nat}{css:List (List Value)}(h:Row w X k A n css):∀cs∈css,cs.length=k:=by intro cs b;have j:=h.len;have l:0<css.length:=List.length_pos_of_mem b;obtain⟨g,p,_,_,d⟩:=h.pos V;obtain⟨i,e⟩:=yO b;exact(d i cs e).1
def AS(e:TypeId)(k bytes:Nat):Prop:=(Tryz.prog.info? e).map (fun i=>(i.zero.map (fun z=>z.cells.size),i.size,i.bytes))=some (some k,k,bytes)
def AS.parts{e:TypeId}{k bytes:Nat}(h:AS e k bytes):∃i z,Tryz.prog.info? e=some i/\i.zero=some z/\z.cells.size=k/\i.size=k/\i.bytes=bytes:=by obtain⟨i,d,b⟩:=vP.1 h;simp only[Prod.mk.injEq]at b;obtain⟨z,g,j⟩:=vP.1 b.1;exact⟨i,z,d,g,j,b.2.1,b.2.2⟩
def Mf{w:World}{X:acO}{t e:TypeId}{k bytes:Nat}(ty:TypeId)(v:Tryz.prog.underlying t=some (.slice e))(S:AS e k bytes)(T:0<k)(hb:bytes<=1000){H c m d:Nat}{A A':acN}{css:List (List Value)}(h:w.ownsRow H e k (.slice A 0 c) 0 [])(o:Row w X k A' m css)(Y:∀cs∈css,∀u∈cs,u.oneCell'=true)(a9:m<=100000000)(B:H<=w.heap.size):∃l c2 w',(Builtin.append_ #[t,t] ty #[.slice A 0 c,.slice A' m d]).run Tryz.prog w=.ok (.slice l m c2) w'/\w'.ownsRow H e k (.slice l m c2) m css.flatten/\Below H w w':=by
 obtain⟨i,z,r,a1,a2,a0,L⟩:=S.parts;have C:=o.len;by_cases U:m=0
 ·subst U;have N:css=[]:=rI C;subst N;refine⟨A,c,w,?_,h,Below.refl _ _⟩;rcases h.2 with⟨x,W⟩|⟨g,cap,E,x,_,_,aa,_⟩;·injection x with e1 e2 e3;subst e1 e3;cases A'<;>simp[Builtin.append_,AX v,sizeOf,typeInfo,r,Builtin.lenOf,Builtin.firstCells,loadCells,loadCellsFrom]
  ·injection x with e1 e2 e3;subst e1 e3;cases A'<;>simp[Builtin.append_,AX v,sizeOf,typeInfo,r,Builtin.lenOf,Builtin.firstCells,storeCells,loadCells,loadCellsFrom]
 ·obtain⟨g,p,rfl,a8,M⟩:=o.pos V;obtain⟨a3,w',Z,y,F,a6,a7⟩:=uR (P:=Tryz.prog) w H t ty e i z k bytes v r a1 a0 L a2 T (.slice A 0 c) 0 [] h ⟨g,p,none⟩ m d css.flatten (by rw[IN css o.C2,C]) (fun j u n=>by obtain⟨i,cs,q,G,I,K⟩:=OS css j u o.C2 n;rw[xO,K];exact(M i cs G).2 q u I) (fun u n=>by obtain⟨cs,O,n⟩:=List.mem_flatten.1 n;exact Y cs O u n) de (by have:(0+m)*bytes<=(0+m)*1000:=Nat.mul_le_mul_left _ hb;omega) B;have R:∃l c2,a3=.slice l m c2:=by
   rcases y.2 with⟨_,W⟩|⟨a5,a4,E,rfl,_⟩;·omega
   ·exact⟨_,_,by rw[sY]⟩
  obtain⟨l,c2,rfl⟩:=R;refine⟨l,c2,w',Z,by simpa using y,vK.grown F B fun b hb=> ?_⟩;cases A with
  |none=>simp[Value.ownBlock]at hb
  |some D=>have:=World.ownsRow.lt h D.block rfl;simp only[Value.ownBlock,sb]at hb;omega
section
variable{ops:Array Oper}{Q:Exit->Act->World->Prop}{rest:List Oper}{a:Act}{w:World}
def zt{b:Option Tmp}{s x:Operand}{ty t e:TypeId}{j:String}{g:Array Edge}{i:Option (Nat×Bool)}(y:Region.wanted ⟨b,.call {callee:=.builtin .append,args:= #[s,x],argTypes:= #[t,t]},ty,j,g,i⟩ (yielded ops a.tmps)=true){X:acO}{k bytes:Nat}(v:Tryz.prog.underlying t=some (.slice e))(n:AS e k bytes)(o:0<k)(hb:bytes<=1000){H c m d:Nat}{A A':acN}{css:List (List Value)}(hs:a.eval s=.slice A 0 c)(hx:a.eval x=.slice A' m d)(h:w.ownsRow H e k (.slice A 0 c) 0 [])(r:Row w X k A' m css)(q:∀cs∈css,∀u∈cs,u.oneCell'=true)(p:m<=100000000)(l:H<=w.heap.size)(hh:∀A2 c2 w',w'.ownsRow H e k (.slice A2 m c2) m css.flatten->Below H w w'->wpList Tryz.prog ops Q rest (a.put b (.slice A2 m c2)) w'):wpList Tryz.prog ops Q (⟨b,.call {callee:=.builtin .append,args:= #[s,x],argTypes:= #[t,t]},ty,j,g,i⟩::rest) a w:=by
 refine tj y fun K hK=> ?_
 obtain⟨A2,c2,w',Il,h2,h3⟩:=Mf (w:=w) ty v n o hb h r q p l (d:=d);exact dW
end
section
variable{w w':World}{b H:Nat}{e:TypeId}{l k B g n c:Nat}{css:List (List Value)}{i j q r:Nat}
def Ge(e:TypeId)(k n:Nat)(css:List (List Value))(w:World)(d:Ending)(w':World):Prop:=∃b c1,d=.returned (.slice b n c1)/\w'.ownsRow w.heap.size e k (.slice b n c1) n css.flatten/\acP w w'
def zP{A:acN}{xs:List Value}(h:w.ownsRow H e k (.slice A n c) n xs):n<=c:=dA
def X2:AS 9 1 16:=fX
def zY(w:World)(X:acO)(A:acN)(n c:Nat)(css:List (List Value))(hr:Row w X 1 A n css)(k:∀cs∈css,∀u∈cs,u.oneCell'=true)(i:n<=100000000)(d:∀b,X b->b<w.heap.size):Calls Tryz.prog 76 #[.slice A n c] w (Ge 9 1 n css w):=by
 have o:∀(w:World)(a:acN)(n c n' c':Nat),(binOp .eql 25 (.slice a n c) (.slice none n' c')).run Tryz.prog w=.ok (.bool a.isNone) w:=fun w a n c n' c'=>ye w _ _ a n c n' c' tL
 have l:=Row.below hr ((acQ w).al rT (.cells #[] 9)) d;cases A with
 |none=>have j:n=0:=cv;subst j;have e:css=[]:=rI hr.len;subst e;go_enter Tryz.func76,Tryz.ntmps76;exact cI
 |some m=>have tm:=(acQ w).al rT (.cells #[] 9);go_enter Tryz.func76,Tryz.ntmps76;go_wp2_with(at_builtin;go_must(refine zt (H:=w.heap.size) rfl tL X2 V V rfl rfl (Aa w #[] 0 rT (rO _) rfl) l k i bi ?_);intro A2 c2 q LG DU);exact eB
def XZ:AS 3 1 8:=fX
def MM(w:World)(X:acO)(A:acN)(n c:Nat)(css:List (List Value))(hr:Row w X 1 A n css)(k:∀cs∈css,∀u∈cs,u.oneCell'=true)(i:n<=100000000)(d:∀b,X b->b<w.heap.size):Calls Tryz.prog 78 #[.slice A n c] w (Ge 3 1 n css w):=by
 have o:∀(w:World)(a:acN)(n c n' c':Nat),(binOp .eql 77 (.slice a n c) (.slice none n' c')).run Tryz.prog w=.ok (.bool a.isNone) w:=fun w a n c n' c'=>ye w _ _ a n c n' c' uM
 have l:=Row.below hr ((acQ w).al rT (.cells #[] 3)) d;cases A with
 |none=>have j:n=0:=cv;subst j;have e:css=[]:=rI hr.len;subst e;go_enter Tryz.func78,Tryz.ntmps78;exact cI
 |some m=>have tm:=(acQ w).al rT (.cells #[] 3);go_enter Tryz.func78,Tryz.ntmps78;go_wp2_with(at_builtin;go_must(refine zt (H:=w.heap.size) rfl uM XZ V V rfl rfl (Aa w #[] 0 rT (rO _) rfl) l k i bi ?_);intro A2 c2 q LG DU);exact eB
def X0:AS 60 5 80:=fX
def MN(w:World)(X:acO)(A:acN)(n c:Nat)(css:List (List Value))(hr:Row w X 5 A n css)(k:∀cs∈css,∀u∈cs,u.oneCell'=true)(i:n<=100000000)(d:∀b,X b->b<w.heap.size):Calls Tryz.prog 139 #[.slice A n c] w (Ge 60 5 n css w):=by
 have o:∀(w:World)(a:acN)(n c n' c':Nat),(binOp .eql 58 (.slice a n c) (.slice none n' c')).run Tryz.prog w=.ok (.bool a.isNone) w:=fun w a n c n' c'=>ye w _ _ a n c n' c' tM
 have l:=Row.below hr ((acQ w).al rT (.cells #[] 60)) d;cases A with
 |none=>have j:n=0:=cv;subst j;have e:css=[]:=rI hr.len;subst e;go_enter Tryz.func139,Tryz.ntmps139;exact cI
 |some m=>have tm:=(acQ w).al rT (.cells #[] 60);go_enter Tryz.func139,Tryz.ntmps139;go_wp2_with(at_builtin;go_must(refine zt (H:=w.heap.size) rfl tM X0 V V rfl rfl (Aa w #[] 0 rT (rO _) rfl) l k i bi ?_);intro A2 c2 q LG DU);exact eB
def XY:AS 82 9 136:=fX
def ML(w:World)(X:acO)(A:acN)(n c:Nat)(css:List (List Value))(hr:Row w X 9 A n css)(k:∀cs∈css,∀u∈cs,u.oneCell'=true)(i:n<=100000000)(d:∀b,X b->b<w.heap.size):Calls Tryz.prog 77 #[.slice A n c] w (Ge 82 9 n css w):=by
 have o:∀(w:World)(a:acN)(n c n' c':Nat),(binOp .eql 76 (.slice a n c) (.slice none n' c')).run Tryz.prog w=.ok (.bool a.isNone) w:=fun w a n c n' c'=>ye w _ _ a n c n' c' PZ
 have l:=Row.below hr ((acQ w).al rT (.cells #[] 82)) d;cases A with
 |none=>have j:n=0:=cv;subst j;have e:css=[]:=rI hr.len;subst e;go_enter Tryz.func77,Tryz.ntmps77;exact cI
 |some m=>have tm:=(acQ w).al rT (.cells #[] 82);go_enter Tryz.func77,Tryz.ntmps77;go_wp2_with(at_builtin;go_must(refine zt (H:=w.heap.size) rfl PZ XY V V rfl rfl (Aa w #[] 0 rT (rO _) rfl) l k i bi ?_);intro A2 c2 q LG DU);exact eB
def X1:AS 79 10 160:=fX
def Gd(w:World)(X:acO)(A:acN)(n c:Nat)(css:List (List Value))(hr:Row w X 10 A n css)(k:∀cs∈css,∀u∈cs,u.oneCell'=true)(i:n<=100000000)(d:∀b,X b->b<w.heap.size):Calls Tryz.prog 75 #[.slice A n c] w (Ge 79 10 n css w):=by
 have o:∀(w:World)(a:acN)(n c n' c':Nat),(binOp .eql 30 (.slice a n c) (.slice none n' c')).run Tryz.prog w=.ok (.bool a.isNone) w:=fun w a n c n' c'=>ye w _ _ a n c n' c' PY
 have l:=Row.below hr ((acQ w).al rT (.cells #[] 79)) d;cases A with
 |none=>have j:n=0:=cv;subst j;have e:css=[]:=rI hr.len;subst e;go_enter Tryz.func75,Tryz.ntmps75;exact cI
 |some m=>have tm:=(acQ w).al rT (.cells #[] 79);go_enter Tryz.func75,Tryz.ntmps75;go_wp2_with(at_builtin;go_must(refine zt (H:=w.heap.size) rfl PY X1 V V rfl rfl (Aa w #[] 0 rT (rO _) rfl) l k i bi ?_);intro A2 c2 q LG DU);exact eB
def At(w:World)(b k:Nat)(css:List (List Value)):Prop:=∀i cs,css[i]? =some cs->cs.length=k/\∀q u,cs[q]? =some u->w.cell? ⟨b,i*k+q,none⟩=some u/\w.frozen? ⟨b,i*k+q,none⟩=false
def QZ(e:q<k)(g:r<k)(h:i*k+q=j*k+r):i=j/\q=r:=by
 have b:(i*k+q)/k=i:=by rw[Gj,Nat.add_mul_div_right _ _ V,Sf e,sY]
 have d:(j*k+r)/k=j:=by rw[Gj,Nat.add_mul_div_right _ _ V,Sf g,sY]
 rw[h]at b;have:i=j:=b.symm.trans d;subst this;exact⟨rfl,V⟩
def At.keep(h:At w b k css)(hb:w'.heap[b]? =w.heap[b]?):At w' b k css:=fun i cs d=>⟨(h i cs d).1,fun q u e=>⟨(rD (w:=w) (a:=⟨b,i*k+q,none⟩) hb).trans ((h i cs d).2 q u e).1,(sA (w:=w) (a:=⟨b,i*k+q,none⟩) hb).trans ((h i cs d).2 q u e).2⟩⟩
def At.below(h:At w b k css)(hb:Below B w w')(d:b<B):At w' b k css:=h.keep (hb.block b d)
def At.off(h:At w b k css)(hb:rS g B w w')(d:b<B)(e:b≠g):At w' b k css:=h.keep (hb.block b d e)
def At.put(h:At w l k css){j:Nat}{cs:List Value}(o:css[j]? =some cs){r:Nat}(n:r<k)(v:Value):At (w.setCell ⟨l,j*k+r,none⟩ v) l k (css.set j (cs.set r v)):=by
 intro i t d;rw[yG]at d;have g:=h j cs o;by_cases m:j=i
 ·subst m;rw[rv rfl,rv (rK.1 o).1]at d;injection d with d;subst d;refine⟨by rw[sT];exact g.1,fun q u b=> ?_⟩;rw[yj];rw[yG]at b;by_cases p:r=q;·subst p;rw[rv rfl,rv (by rw[g.1];exact n)]at b;injection b with b;subst b;have:=g.2 r cs[r] (ry (by rw[g.1];exact n));exact gF
  ·rw[ru p]at b;have:=g.2 q u b;refine⟨(zv _ _ _ _ (fun e=> ?_)).trans this.1,this.2⟩;injection e with _ e _;omega
 ·rw[ru m]at d;have sW:=h i t d;refine⟨sW.1,fun q u b=> ?_⟩;rw[yj];have:=sW.2 q u b;refine⟨(zv _ _ _ _ (fun e=> ?_)).trans this.1,this.2⟩;injection e with _ e _;have x:q<k:=by rw[<-sW.1];exact(rK.1 b).1
  exact m (QZ n x e).1
def J5{A:acN}{css:List (List Value)}(h:w.ownsRow H e k (.slice A n c) n css.flatten)(z:∀cs∈css,cs.length=k)(y:0<k)(o:0<n):∃b,A=some ⟨b,0,none⟩/\H<=b/\b<w.heap.size/\At w b k css/\css.length=n:=by
 have r:=Row.wK h z y;obtain⟨g,p,v,K,l⟩:=r.pos o;obtain⟨t,cap,hv,hb,B⟩:=World.ownsRow.form h o;have d:A=some ⟨t,0,none⟩:=ie;have j:=v.symm.trans d;injection j with j;injection j with h1 h2 _;subst h1 h2;refine⟨g,d,hb,B,fun i cs m=>⟨(l i cs m).1,fun q u C=>⟨by have:=(l i cs m).2 q u C;rwa[sY]at this,?_⟩⟩,r.len⟩;rcases h.2 with⟨hv,F⟩|⟨E,cap,D,hv,hb,x,L,G,I,M⟩;·omega
 ·injection hv with hv e1 e2;rw[d]at hv;injection hv with hv;injection hv with hv;subst hv;simp[World.frozen?,x]
def At.row(h:At w b k css)(g:css.length=n)(X:acO)(e:X b):Row w X k (some ⟨b,0,none⟩) n css:=⟨g,fun _=>⟨b,0,rfl,e,fun i cs d=>⟨(h i cs d).1,fun j u l=>by rw[sY];exact((h i cs d).2 j u l).1⟩⟩⟩
end
