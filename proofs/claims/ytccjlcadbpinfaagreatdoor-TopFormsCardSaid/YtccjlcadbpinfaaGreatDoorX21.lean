import Derived.Test.YtccjlcadbpinfaaGreatDoorX19
import Derived.Test.YtccjlcadbpinfaaGreatDoorX20
import Derived.Deep.OwnRows
set_option linter.all false
set_option maxRecDepth 100000
set_option maxHeartbeats 16000000
namespace Go.Proofs.YtccjlcadbpinfaaGreatDoor.Tp
open ChangeShapes WideShapes ChangeAt RowKit
open Num Mem Can
section
variable(w:World)(kn:List Int)(b a n r:Nat){S:List Nd}{root:Int}{m:Nat->Option Nat}
def Tr(E:∀a b,m a=some b->a<b/\∀i x,a<=i->i<b->S[i]? =some x->∀k∈ti x,0<=k/\k<(b:Int)):∀(ks:List Int)(d R:Nat),zm S m ks d=some R->d<=R/\(∀k∈ks,0<=k/\k<(R:Int))/\∀i x,d<=i->i<R->S[i]? =some x->∀k∈ti x,0<=k/\k<(R:Int):=by
 intro ks;induction ks with
 |nil=>intro d R h;simp only[zm,sb]at h;subst h;exact⟨rN _,bi,fun i x z o=>V⟩
 |cons k ks v=>
  intro d R h;simp only[zm]at h;split at h
  ·rename_i D;cases l:m d with
   |none=>rw[l]at h;cases h
   |some y=>
    rw[l]at h;obtain⟨z,o⟩:=E _ _ l;obtain⟨p,h4,e⟩:=v y R h;refine⟨V,?_,?_⟩;·exact jF
    ·intro i x B C q j hj;rcases sX i y with g|g;·have:=o i x B g q j hj;omega
     ·exact e i x g C q j hj
  ·split at h;·cases h
   ·rename_i D;split at h
    ·split at h;·obtain⟨p,h4,e⟩:=v d R h;refine⟨p,?_,e⟩;exact jF
     ·cases h
    ·simp at h
def UL(S:List Nd):∀(f a b:Nat),wU S f a=some b->a<b/\∀i x,a<=i->i<b->S[i]? =some x->∀k∈ti x,0<=k/\k<(b:Int):=by
 intro f;induction f with
 |zero=>intro a b h;cases h
 |succ f p=>
  intro a b h;simp only[wU]at h;cases e:S[a]? with
  |none=>rw[e]at h;cases h
  |some x=>
   rw[e]at h;obtain⟨q,j,l⟩:=Tr p _ _ _ h;refine⟨V,?_⟩;intro i y m o d k g;rcases Nat.eq_or_lt_of_le m with rfl|v;·rw[e]at d;injection d with d;subst d;exact j k g
   ·exact l i y V o d k g
def Dy(h:vR S root=true):root=0/\0<S.length/\S.length<=200/\∀x∈S,∀k∈ti x,0<=k/\k<(S.length:Int):=by unfold vR at h;simp only[rG,rQ]at h;obtain⟨d,e,g,j⟩:=h;refine⟨g,d,e,fun x l=> ?_⟩;obtain⟨i,a,rfl⟩:=zy l;exact(UL S _ _ _ j).2 i _ (rO _) a (ry a)
def yy(h:∀x∈S,∀k∈ti x,0<=k/\k<(S.length:Int)):∀x∈S,x.kind=9->∀f∈x.fields,0<=f.type/\f.type<(S.length:Int):=fun x e d f a=>by refine h x e f.type ?_;unfold ti;rw[rv d];exact sR.2 ⟨f,a,rfl⟩
def Bq(h:∀x∈S,∀k∈ti x,0<=k/\k<(S.length:Int)):∀x∈S,x.kind=13->∀k∈x.rR,0<=k/\k<(S.length:Int):=fun x d a k hb=>by refine h x d k ?_;unfold ti;rw[ru V,ru V,rv a];exact hb
def Ip(h:∀x∈S,∀k∈ti x,0<=k/\k<(S.length:Int)):∀x∈S,(x.kind=11\/x.kind=12)->0<=x.items/\x.items<(S.length:Int):=fun x d a=>by refine h x d x.items ?_;unfold ti;rw[ru V,rv a];simp
def Ts(hr:r=w.heap.size):Ov (w.alloc (.cells (madeCells #[.int .i64 0] n) 3)) r (List.replicate n 0):=cT
def Tf:RW (List.replicate n 0):=fun v a=>by obtain⟨_,rfl⟩:=List.mem_replicate.1 a;omega
def WH:Jj (List.replicate n 0)=n:=by unfold Jj;rw[List.count_replicate_self]
def YF:Jj kn<=kn.length:=List.count_le_length
def Da(S:List Nd)(root at_:Int):Int:=if 0<=at_/\at_<(S.length:Int)/\vR S root=true then(Gb S (S.length+1) at_.toNat (List.replicate S.length 0)).1 else 0
def Pk(a:n<=100000000)(w:World):(Instr.makeSlice 77 (.int .i64 (n:Int)) (.int .i64 (n:Int))).run Tryz.prog w=.ok (.slice (some ⟨w.heap.size,0,none⟩) n n) (w.alloc (.cells (madeCells #[.int .i64 0] n) 3)):=run_make_row' (P:=Tryz.prog) 77 3 (.int .i64 0) 8 uM D6 rfl .i64 .i64 n V V w
def M3(S:List Nd)(root at_:Int)(w:World)(X:acO)(A:acN)(n c:Nat)(y:tV w X A n S)(hX:∀b,X b->b<w.heap.size)(x:n<=100000000):Calls Tryz.prog 57 #[.agg #[.slice A n c,.int .i64 root],.int .i64 at_] w fun e w'=>e=.returned (.int .i64 (Da S root at_))/\Below w.heap.size w w':=by
 have v:=y.len;obtain⟨R,g⟩:∃R,R=Da S root at_:=⟨_,rfl⟩;rw[<-g];unfold Da at g;rw[v]at g;have HR:=rq g;have HL:=rq v;clear g v;have tm:=(acQ w).al rT (sC A n c root);have F:(w.alloc (sC A n c root)).cell? ⟨w.heap.size,0,none⟩=some (.slice A n c):=bf;have G:(w.alloc (sC A n c root)).cell? ⟨w.heap.size,1,none⟩=some (.int .i64 root):=bf;have D:w.heap.size<(w.alloc (sC A n c root)).heap.size:=bi;go_enter Tryz.func57,Tryz.ntmps57;go_upto_region 1 with fail;generalize w.alloc (sC A n c root)=w1 at*;by_cases W:at_<0;·exact og
 by_cases Y:(n:Int)<=at_;·exact og
 obtain⟨a,rfl⟩:∃a:Nat,at_=(a:Int):=⟨at_.toNat,V⟩;have C:=Fk S root w1 X A n c (y.below tm hX) (fun b hb=>bl) x;go_wp2_with fail;refine C.mono ?_;rintro e' a2 ⟨rfl,o⟩;clear C;have H:=(o.cell (p:=⟨w.heap.size,0,none⟩) D).trans F;have I:=(o.cell (p:=⟨w.heap.size,1,none⟩) D).trans G;have AZ:=tm.sV V o;have a0:=o.size;clear F G;cases j:vR S root with
 |false=>
  obtain rfl:R=0:=by rw[HR.out,ru (by simp[j])]
  clear HR j;exact bR
 |true=>have ho:=Dy j;rw[HL.out]at ho;have B:=yy (S:=S) j8;rw[HL.out]at B;have g:=HR.out;rw[rv ⟨V,V,j⟩,rW]at g;have Ca:=rq g;have Z:=Pk n x;clear g HR j ho;go_upto_region 3 with fail;refine su [0,1,2,3,4,5,6,7] [5,6] bg bg bi bg (fun _ _ d _ _ h=>bw) (fun wd q sW=> ?_);have d0:=(q.cell (p:=⟨w.heap.size,0,none⟩) bd).trans H;have d1:=(q.cell (p:=⟨w.heap.size,1,none⟩) bd).trans I;have z:=AZ.sV V q;have a1:w.heap.size<wd.heap.size:=V;have O:=y.below z hX;clear q sW H I;refine aE ?_;refine sB rfl rfl (w.heap.size+1) V (fun L l=> ?_);go_wp2_with fail;have m:=(acQ wd).al rT (.cells (madeCells #[.int .i64 0] n) 3);have K:=Ts wd n wd.heap.size rfl;have T:wd.heap.size<(wd.alloc (.cells (madeCells #[.int .i64 0] n) 3)).heap.size:=bi;refine l _ _ (m.mono V) ?_;clear l;have N:=O.below m (fun b hb=>bl);have M:=z.trans (m.mono (B':=w.heap.size) V);clear m;generalize wd.alloc (.cells (madeCells #[.int .i64 0] n) 3)=U at*;refine ay ?_;refine sB rfl rfl (w.heap.size+1) V (fun L l=> ?_);go_wp2_with fail;refine(HZ S root wd.heap.size A n c X x B (n+1) a (List.replicate n 0) U (by rw[WH];omega) (Tf n) yg V N K T (fun b hb=>bl)).mono ?_;rintro e' a3 ⟨rfl,_,E⟩;go_wp2_with fail;refine l _ _ (E.below V V) ?_;clear l;refine ay ?_;refine sn ?_;go_wp2_with fail;go_ret;exact⟨kG,M.trans (E.below V V)⟩
def KE(w:World)(b a:Nat)(st:acM×Bool):Prop:=∃(p A:acN)(n c:Nat),Ba w b p A n c st.2/\(p=none\/p=some ⟨b,0,none⟩)/\Mem.Own w a A n c st.1/\b<a/\a<=w.heap.size/\n<=20000
def xq(st:acM×Bool)(s:acM):acM×Bool:=if(st.2||decide (20000<s.length+st.1.length))=true then(st.1,true)else(st.1++s,false)
def KE.below{w w':World}{b a:Nat}{st:acM×Bool}(h:KE w b a st)(hb:Below w.heap.size w w'):KE w' b a st:=by obtain⟨p,A,n,c,d,e,g,j,m,l⟩:=h;exact⟨p,A,n,c,d.below hb d.lt,e,g.below hb,j,dE,l⟩
def wj(st:acM×Bool)(s:acM)(w:World)(h:KE w b a st)(H:s.length<=10000000):Calls Tryz.prog 118 #[.pointer (some ⟨b,0,none⟩),.string ⟨s.toArray⟩] w fun e w'=>e=.returned (.tuple #[])/\KE w' b a (xq st s)/\rS b a w w'/\zG b w w':=by
 obtain⟨p,A,n,c,h1,h2,h3,h4,h5,h6⟩:=h;obtain⟨xs,m⟩:=st;simp only at h1 h3;have g:=h3.len;obtain⟨R,d⟩:∃R,R=xq (xs,m) s:=⟨_,rfl⟩;rw[<-d];unfold xq at d;simp only[g]at d;have HR:=rq d;clear d;have c0:=h1.c0;have c1:=h1.c1;have c2:=h1.c2;have fz:=h1.fz 2;have G:=h1.lt;have F:=rq g;clear g;cases m
 ·by_cases l:20000<s.length+n
  ·obtain rfl:R=(xs,true):=by rw[HR.out];simp[l]
   have C:(20000:Int)-(n:Int)<(s.length:Int):=V;have D:decide ((20000:Int)-(n:Int)<(s.length:Int))=true:=by simp;omega
   clear HR l;go_enter Tryz.func118,Tryz.ntmps118;go_wp2_with fail;refine(Ow b p A n c false w h1).mono ?_;rintro e' E ⟨rfl,rfl⟩;exact dn
  ·obtain rfl:R=(xs++s,false):=by rw[HR.out];simp;omega
   have C:¬(20000:Int)-(n:Int)<(s.length:Int):=V;have D:decide ((20000:Int)-(n:Int)<(s.length:Int))=false:=by simp;omega
   clear HR;go_enter Tryz.func118,Tryz.ntmps118;go_wp2_with fail;refine(Ow b p A n c false w h1).mono ?_;rintro e' E ⟨rfl,rfl⟩;go_wp2_with fail;have v:=h1.s2 false;have x:=h3.off ((rS.refl b w.heap.size w).setAt 2 (.bool false)) h4;refine(Fy b p A n c a false xs s _ v h2 x h4 (by simpa using h5) V).mono ?_;rintro e' K ⟨rfl,o,q,z,B,j,y⟩;have I:=j.size;have AE:=((rS.refl b a w).setAt 2 (.bool false)).trans j;go_wp2_with fail;refine tY (tA rfl _ _ _) rfl ?_;exact⟨rfl,⟨_,o,_,q,z,.inr rfl,B,h4,dt,V⟩,AE,(zG.off ((rS.refl b _ _).setAt 2 _)).trans y⟩
 ·obtain rfl:R=(xs,true):=bP;clear HR;go_enter Tryz.func118,Tryz.ntmps118;exact dn
end
abbrev St:=acM×Bool
def Ih(i:Nat)(st:St):St:=if 0<i then xq st [44]else st
mutual
def ya:J->St->St
 | .mk k i t l ks,st=>if k=1 then xq st [110,117,108,108]else if k=2 then xq st (if i=1 then [116,114,117,101]else [102,97,108,115,101])else if k=3 then xq st (zO i)else if k=4 then xq st (sU t)else if k=5 then xq (Dp l 0 (xq st [91])) [93]else xq (AL l ks 0 (xq st [123])) [125]
def Dp:List J->Nat->St->St
 | [],_,st=>st
 |x::r,i,st=>Dp r (i+1) (ya x (Ih i st))
def AL:List J->List acM->Nat->St->St
 | [],_,_,st=>st
 |_::_,[],_,st=>st
 |x::r,k::ks,i,st=>AL r ks (i+1) (ya x (xq (Ih i st) (sU k++[58])))
end
inductive xC:J->Prop
 |mk {k i:Int} {t:acM} {l:List J} {ks:List acM} (ht:t.length<=1000000) (hk:∀x∈ks,x.length<=1000000) (h1: -9223372036854775808<=i) (h2:i<=9223372036854775807) (h6:¬(k=1\/k=2\/k=3\/k=4\/k=5)->ks.length=l.length) (hi:∀x∈l,xC x):xC (.mk k i t l ks)
def Cs(w:World)(B0 b:Nat):Prop:=w.heap[B0]? =some (.cells #[.pointer (some ⟨b,0,none⟩)] 135 (0,0))
def Bz(w:World)(J0:Nat)(k i:Int)(t:ByteArray)(A:acN)(n c:Nat)(A':acN)(n' c':Nat):Prop:=w.heap[J0]? =some (.cells #[.int .i64 k,.int .i64 i,.string t,.slice A n c,.slice A' n' c'] 60 (0,0))
section
variable{w w':World}{B0 J0 b:Nat}{k i:Int}{t:ByteArray}{A A':acN}{n c n' c':Nat}
def Cs.c0(h:Cs w B0 b):w.cell? ⟨B0,0,none⟩=some (.pointer (some ⟨b,0,none⟩)):=by unfold Cs at h;exact eR
def Bz.at_(h:Bz w J0 k i t A n c A' n' c'):RZ w J0 k i t A n c A' n' c':=by unfold Bz at h;exact⟨eR,eR,eR,eR,eR⟩
def Cs.lt(h:Cs w B0 b):B0<w.heap.size:=(uh.1 h).1
def Bz.lt(h:Bz w J0 k i t A n c A' n' c'):J0<w.heap.size:=(uh.1 h).1
def Cs.D9(h:Cs w B0 b)(a:zG b w w')(hb:B0≠b):Cs w' B0 b:=(a.block B0 h.lt hb (fun d fz e=>by unfold Cs at h;exact mG)).trans h
def Bz.D9(h:Bz w J0 k i t A n c A' n' c')(a:zG b w w')(hb:J0≠b):Bz w' J0 k i t A n c A' n' c':=(a.block J0 h.lt hb (fun d fz e=>by unfold Bz at h;exact mG)).trans h
end
def Jr(N:Nat):Prop:=∀(j:J),SizeOf.sizeOf j<=N->xC j->∀(w:World)(b a:Nat)(st:St)(X:acO)(k i:Int)(t:ByteArray)(A:acN)(n c:Nat)(A':acN)(n' c':Nat),uf w X (jv k i t A n c A' n' c') j->(∀x,X x->x<b)->KE w b a st->Calls Tryz.prog 60 #[.pointer (some ⟨b,0,none⟩),jA k i t A n c A' n' c'] w fun e w'=>e=.returned (.tuple #[])/\KE w' b a (ya j st)/\rS b a w w'/\zG b w w'
def uf.QW{w w':World}{b a:Nat}{X:acO}{cs:List Value}{j:J}(h:uf w X cs j)(e:rS b a w w')(d:∀x,X x->x<b)(hb:b<a):uf w' X cs j:=h.keep (fun q g=>by have:=d _ g;exact e.cell V V) (fun _ h=>h)
def LO(i:Int)(w:World):Calls Tryz.prog 121 #[.int .i64 i] w fun e w'=>e=.returned (.tuple #[])/\w=w':=by go_enter Tryz.func121,Tryz.ntmps121;go_wp2_with fail;refine tY (tA rfl _ _ _) rfl ?_;exact bH
def Qj(N:Nat)(a8:Jr N)(B0 J0 b a:Nat)(st:St)(l:List J)(c3:∀x∈l,SizeOf.sizeOf x<=N/\xC x)(w:World)(X:acO)(k i:Int)(t:ByteArray)(A:acN)(n c:Nat)(A':acN)(n' c':Nat){css:List (List Value)}(hr:Row w X 5 A n css)(bn:css.length=l.length)(bs:∀(i:Nat)(h:i<css.length)(cS:i<l.length),uf w X css[i] l[i])(D:∀x,X x->x<b)(d4:n<=100000000)(K:Cs w B0 b)(b8:Bz w J0 k i t A n c A' n' c')(d0:a<=B0)(d1:a<=J0)(hp:KE w b a st):Calls Tryz.prog 117 #[.string ⟨#[91]⟩,.string ⟨#[93]⟩,.func (.func 121) #[] #[],.pointer (some ⟨B0,0,none⟩),.pointer (some ⟨J0,0,none⟩)] w fun e w'=>e=.returned (.tuple #[])/\KE w' b a (xq (Dp l 0 (xq st [91])) [93])/\rS b a w w'/\zG b w w':=by
 have a9:b<a:=eT;have ak:l.length=n:=cM;have HL:=rq ak;clear ak;have b3:=K.c0;obtain⟨R,O⟩:∃R,R=Dp l 0 (xq st [91]):=⟨_,rfl⟩;rw[<-O];have a1:=rq O;clear O;go_enter Tryz.func117,Tryz.ntmps117;go_wp2_with fail;refine(wj b a st [91] w hp bi).mono ?_;rintro e' d6 ⟨rfl,ar,an,G⟩;have b4:=K.D9 G V;have a7:=b8.D9 G V;obtain⟨j0,c6,c7,c8,c9⟩:=a7.at_;clear b3 hp;go_wp2_with fail;go_loopw [16] (fun a0 wr=>∃(j:Nat)(d:St),a0=.int .i64 j/\j<=n/\KE wr b a d/\R=Dp (l.drop j) j d/\rS b a w wr/\zG b w wr) (fun a0 _=>n-(intOf a0).toNat);case atStart=>exact⟨0,xq st [91],rfl,rO _,ar,a1.out,an,G⟩
 case
  round=>
   obtain⟨j,d,rfl,d3,VO,af,H4,VD⟩:=hrel;have HK:=rq af;clear af a1 ar an G b4 a7 j0 c6 c7 c8 c9;have L:=K.D9 VD V;have be:=L.c0;have d5:=H4.size;by_cases Ar:j<n
   ·have DZ:j<l.length:=cZ;have bO:(j:Int)<(n:Int):=V;obtain⟨g,q,x,y,v,C,m,z,c1,o,B,c2,rfl,br,hx,ad,a2,a3,a4,a5,a6⟩:=yZ hr bn bs Ar;have Z:l[j]=x:=cX;obtain⟨b0,b1⟩:=c3 x (Z▸rY DZ);have ac:l.drop j=x::l.drop (j+1):=by rw[rH DZ,Z]
    have aU:R=Dp (l.drop (j+1)) (j+1) (ya x (Ih j d)):=by rw[HK.out,ac];rfl
    have Vg:=rq aU;have d2:=D g br;have cb:=(H4.cell (p:=⟨g,q+j*5,none⟩) bd bd).trans a2;have cc:=(H4.cell (p:=⟨g,q+j*5+1,none⟩) bd bd).trans a3;have cf:=(H4.cell (p:=⟨g,q+j*5+2,none⟩) bd bd).trans a4;have ch:=(H4.cell (p:=⟨g,q+j*5+3,none⟩) bd bd).trans a5;have ci:=(H4.cell (p:=⟨g,q+j*5+4,none⟩) bd bd).trans a6;clear aU HK ac hx Z a2 a3 a4 a5 a6 DZ;go_upto_region 4 with fail;have E:=(acQ wr).al rT (jC y v C m z c1 o B c2);have Y:=VO.below E;have F:=L.D9 (zG.below E) V;have M:Bz (wr.alloc (jC y v C m z c1 o B c2)) wr.heap.size y v C m z c1 o B c2:=World.alloc_heap_new wr _;have I:=H4.trans (rS.of (g:=b) (E.mono ia));have S:=VD.trans (zG.below E);have T:=ad.QW I D a9;have b7:wr.heap.size≠b:=iu;clear VO L H4 VD E ad be cb cc cf ch ci;generalize wr.alloc (jC y v C m z c1 o B c2)=b2 at*;generalize wr.heap.size=cz at*;by_cases bx:j=0;·have bz:¬(0:Int)<(j:Int):=V;have aa:Ih j d=d:=ru V;rw[aa]at Vg;clear aa bx;have bj:=F.c0;obtain⟨cr,cs,ct,cx,cy⟩:=M.at_;go_wp2_with fail;refine(LO (j:Int) b2).mono ?_;rintro e' cl ⟨rfl,rfl⟩;go_wp2_with fail;refine(a8 x b0 b1 _ b a (d) X y v C m z c1 o B c2 T D Y).mono ?_;rintro e' cp ⟨rfl,XT,W,Q⟩;have hoz:=I.trans W;have hfz:=S.trans Q;exact mq
    ·have bz:(0:Int)<(j:Int):=V;have ab:Ih j d=xq d [44]:=rv V;rw[ab]at Vg;clear ab;have bk:=F.c0;go_wp2_with fail;refine(wj b a d [44] b2 Y bi).mono ?_;rintro e' cj ⟨rfl,c5,U,H⟩;have b5:=F.D9 H V;have b6:=M.D9 H b7;have bv:=T.QW U D a9;have c4:=I.trans U;have bp:=S.trans H;clear Y F M T I S U H bk;have bj:=b5.c0;obtain⟨cr,cs,ct,cx,cy⟩:=b6.at_;go_wp2_with fail;refine(LO (j:Int) cj).mono ?_;rintro e' cl ⟨rfl,rfl⟩;go_wp2_with fail;refine(a8 x b0 b1 _ b a (xq d [44]) X y v C m z c1 o B c2 bv D c5).mono ?_;rintro e' cp ⟨rfl,XT,W,Q⟩;have hoz:=c4.trans W;have hfz:=bp.trans Q;exact mq
   ·have b9:R=d:=pw;have bO:¬(j:Int)<(n:Int):=V;subst b9;clear HK;go_wp2_with fail;refine(wj b a R [93] wr VO bi).mono ?_;exact eG
end Go.Proofs.YtccjlcadbpinfaaGreatDoor.Tp
namespace Go.Proofs.YtccjlcadbpinfaaGreatDoor.Tp
open ChangeShapes WideShapes ChangeAt RowKit
open Num Mem Can
structure Gh(b base T:Nat)(w w':World):Prop where
 size:w.heap.size<=w'.heap.size
 block:∀k,k<T->k<w.heap.size->k≠b->(∀cur fz,w.heap[k]?≠some (.cells cur 5 fz))->w'.heap[k]? =w.heap[k]?
 off:rS b base w w'
def NL(b l:Nat):zZ (Gh b l):=⟨fun _ w=>⟨rN _,fun _ _ _ _ _=>rfl,rS.refl _ _ _⟩,fun h k=>⟨sG h.size k.size,fun j a d hb g=>by have e:=h.block j a d hb g;rw[k.block j a (sj d h.size) hb (by rw[e];exact g),e],h.off.trans k.off⟩,fun h m=>⟨h.size,fun j a d hb g=>h.block j (sj a m) d hb g,h.off⟩⟩
def Gh.below{b d a:Nat}{w w':World}(h:Below a w w')(hb:d<=a):Gh b d a w w':=⟨h.size,fun k e _ _ _=>h.block k e,rS.of (h.mono hb)⟩
def Gh.D9{b a d:Nat}{w w':World}(h:zG b w w')(j:rS b a w w'):Gh b a d w w':=⟨h.size,fun k _ e hb g=>h.block k e hb g,j⟩
def Cs.ZO{w w':World}{B0 b d a:Nat}(h:Cs w B0 b)(j:Gh b d a w w')(g:B0<a)(hb:B0≠b):Cs w' B0 b:=(j.block B0 g h.lt hb (fun l fz e=>by unfold Cs at h;exact mG)).trans h
def Bz.ZO{w w':World}{J0 b d a:Nat}{k i:Int}{t:ByteArray}{A A':acN}{n c n' c':Nat}(h:Bz w J0 k i t A n c A' n' c')(j:Gh b d a w w')(g:J0<a)(hb:J0≠b):Bz w' J0 k i t A n c A' n' c':=(j.block J0 g h.lt hb (fun l fz e=>by unfold Bz at h;exact mG)).trans h
def LP(j B0 J0 b base:Nat)(st:St)(ks:List acM)(key:acM)(F:ks[j]? =some key)(aa:key.length<=1000000)(w:World)(X:acO)(k i:Int)(t:ByteArray)(A:acN)(n c:Nat)(A':acN)(n' c':Nat)(hr:Row w X 1 A' n' (uF ks))(U:∀x,X x->x<b)(ab:n'<=100000000)(H:Cs w B0 b)(I:Bz w J0 k i t A n c A' n' c')(a3:base<=B0)(a4:base<=J0)(hp:KE w b base st):Calls Tryz.prog 122 #[.int .i64 (j:Int),.pointer (some ⟨B0,0,none⟩),.pointer (some ⟨J0,0,none⟩)] w fun e w'=>e=.returned (.tuple #[])/\KE w' b base (xq st (sU key++[58]))/\rS b base w w'/\zG b w w':=by
 have a5:b<base:=eT;have W:base<=w.heap.size:=by obtain⟨_,_,_,_,_,_,_,_,h,_⟩:=hp;exact h
 have M:j<ks.length:=(rK.1 F).1;have N:ks[j]=key:=(rK.1 F).2;have a0:ks.length=n':=mQ;have a9:(j:Int)<(n':Int):=V;obtain⟨g,q,rfl,Y,L⟩:=hr.pos V;have C:=(L j [sv ks[j]] (by simp[uF,M])).2 0 (sv ks[j]) rfl;rw[tv,si,N]at C;unfold sv at C;have a7:=U g Y;have Z:g<w.heap.size:=V;have ac:(sU key).length<=6000002:=by unfold sU;have:=GR key;exact j5
 clear F N a0 M L;go_enter Tryz.func122,Tryz.ntmps122;refine td (K:=Gh b base) (NL b base) (sk.of [0,1,2,3,4,5] (.fork 6 (sk.of [7,8,9,10] .nil) 7 (sk.of [6,8,9,10] .nil))) [6,7,8,9,10] bg bg bC bg (fun _ _ d _ _ h=>bw) (fun we l a2=> ?_);have YN:=H.D9 (zG.below l) V;have YO:=I.D9 (zG.below (b:=b) l) V;have hce:=(l.cell (p:=⟨g,q+j,none⟩) Z).trans C;have W1:=hp.below l;have hoe:rS b base w we:=rS.of (l.mono W);have hfe:zG b w we:=zG.below l;have a6:base<=we.heap.size:=V;have a8:g<we.heap.size:=V;clear H I C hp l a2;refine aI ?_;refine zB rfl rfl we.heap.size V (fun Q1 sP=> ?_) (fun Q1 sP=> ?_);·go_wp2_with fail;refine(Ew none 0 0 we.heap.size [] key we (Mem.Own.nil _ _) V V rT).mono ?_;rintro e' z ⟨R,m,c2,rfl,D,B⟩;rw[sd]at D;go_wp2_with fail;refine sP _ _ (Gh.below B V) ?_;clear sP;have G:=B.size;have a1:=D.len;have y:=rd_val z 58 58 rfl;have o:=(Below.refl we.heap.size z).al G (.cells #[.int .u8 58] 5);refine aI ?_;refine rZ rfl rfl we.heap.size V (fun Q1 sP=> ?_);go_wp2_with fail;refine sP _ _ (Gh.below (vK.alloc G _) V) ?_;clear sP;refine aI ?_;refine rZ rfl rfl we.heap.size V (fun Q1 sP=> ?_);go_wp2_with(at_builtin;go_must(refine yF rfl rfl (D.alloc _) rfl y V (by simp;omega) ?_);intro S T w6 LH a);refine sP _ _ (Gh.below a V) ?_;clear sP;have xo:=B.trans (o.trans a);clear B o a y D;exact lI
 ·go_wp2_with fail;refine sP _ _ (Gh.below (vK.alloc rT _) V) ?_;clear sP;have y:=rd_val we 58 58 rfl;have o:=(acQ we).al rT (.cells #[.int .u8 58] 5);have G:we.heap.size<(we.alloc (.cells #[.int .u8 58] 5)).heap.size:=bi;refine aI ?_;refine rZ rfl rfl we.heap.size V (fun Q1 sP=> ?_);generalize we.alloc (.cells #[.int .u8 58] 5)=z at*;go_wp2_with fail;refine(Ew none 0 0 z.heap.size [] key z (Mem.Own.nil _ _) V V rT).mono ?_;rintro e' af ⟨R,m,c2,rfl,E,v⟩;rw[sd]at E;go_wp2_with fail;refine sP _ _ (Gh.below (v.mono V) V) ?_;clear sP;have ad:=v.size;have a1:=E.len;have O:=y.tw v V;refine aI ?_;refine rZ rfl rfl we.heap.size V (fun Q1 sP=> ?_);go_wp2_with(at_builtin;go_must(refine yF rfl rfl E rfl O V V ?_);intro S T w6 LH a);refine sP _ _ (Gh.below (a.mono V) V) ?_;clear sP;have xo:=o.trans ((v.mono V).trans (a.mono V));clear v o a y O E;exact lI
def SO(N:Nat)(hN:Jr N)(B0 J0 b base:Nat)(st:St)(l:List J)(ks:List acM)(d3:ks.length=l.length)(c6:∀x∈ks,x.length<=1000000)(c7:∀x∈l,SizeOf.sizeOf x<=N/\xC x)(w:World)(X:acO)(k i:Int)(t:ByteArray)(A:acN)(n c:Nat)(A':acN)(n' c':Nat){css:List (List Value)}(hr:Row w X 5 A n css)(bs:css.length=l.length)(bz:∀(i:Nat)(h:i<css.length)(d0:i<l.length),uf w X css[i] l[i])(cb:Row w X 1 A' n' (uF ks))(hX:∀x,X x->x<b)(d4:n<=100000000)(b3:n'<=100000000)(L:Cs w B0 b)(ab:Bz w J0 k i t A n c A' n' c')(a9:base<=B0)(ac:base<=J0)(hp:KE w b base st):Calls Tryz.prog 117 #[.string ⟨#[123]⟩,.string ⟨#[125]⟩,.func (.func 122) #[] #[.pointer (some ⟨B0,0,none⟩),.pointer (some ⟨J0,0,none⟩)],.pointer (some ⟨B0,0,none⟩),.pointer (some ⟨J0,0,none⟩)] w fun e w'=>e=.returned (.tuple #[])/\KE w' b base (xq (AL l ks 0 (xq st [123])) [125])/\rS b base w w'/\zG b w w':=by
 have F:b<base:=eT;have b4:l.length=n:=cM;have HL:=rq b4;clear b4;have be:=L.c0;obtain⟨R,S⟩:∃R,R=AL l ks 0 (xq st [123]):=⟨_,rfl⟩;rw[<-S];have a3:=rq S;clear S;go_enter Tryz.func117,Tryz.ntmps117;go_wp2_with fail;refine(wj b base st [123] w hp bi).mono ?_;rintro e' d6 ⟨rfl,b6,b5,G⟩;have bj:=L.D9 G V;have ad:=ab.D9 G V;obtain⟨j0,ch,ci,cj,cl⟩:=ad.at_;clear be hp;go_wp2_with fail;go_loopw [16] (fun a1 wr=>∃(j:Nat)(a:St),a1=.int .i64 j/\j<=n/\KE wr b base a/\R=AL (l.drop j) (ks.drop j) j a/\rS b base w wr/\zG b w wr) (fun a1 _=>n-(intOf a1).toNat);case atStart=>exact⟨0,xq st [123],rfl,rO _,b6,a3.out,b5,G⟩
 case
  round=>
   obtain⟨j,a,rfl,d2,VO,b1,H4,VD⟩:=hrel;have C:=rq b1;clear b1 a3 b6 b5 G bj ad j0 ch ci cj cl;have D:=L.D9 VD V;have bp:=D.c0;have d5:=H4.size;by_cases Ar:j<n
   ·have DZ:j<l.length:=cZ;have c5:(j:Int)<(n:Int):=V;obtain⟨g,q,x,k1,i1,t1,A1,n1,c1,A2,n2,c2,rfl,bx,hx,b0,a4,a5,a6,a7,a8⟩:=yZ hr bs bz Ar;have a0:l[j]=x:=cX;obtain⟨hxs,hxw⟩:=c7 x (a0▸rY DZ);have aU:l.drop j=x::l.drop (j+1):=by rw[rH DZ,a0]
    have y:j<ks.length:=V;obtain⟨key,H⟩:∃key,ks[j]? =some key:=⟨_,ry y⟩;have W:ks[j]=key:=by rw[ry y]at H;injection H
    have b2:=c6 key (W▸rY y);have ar:ks.drop j=key::ks.drop (j+1):=by rw[rH y,W]
    have b8:R=AL (l.drop (j+1)) (ks.drop (j+1)) (j+1) (ya x (xq (Ih j a) (sU key++[58]))):=by rw[C.out,aU,ar];rfl
    have b7:=cb.keep (fun q hq=>H4.cell bG bG) (fun _ h=>h);have a2:=rq H;clear W ar y H;have Vg:=rq b8;have d1:=hX g bx;have cp:=(H4.cell (p:=⟨g,q+j*5,none⟩) bd bd).trans a4;have cr:=(H4.cell (p:=⟨g,q+j*5+1,none⟩) bd bd).trans a5;have cs:=(H4.cell (p:=⟨g,q+j*5+2,none⟩) bd bd).trans a6;have ct:=(H4.cell (p:=⟨g,q+j*5+3,none⟩) bd bd).trans a7;have cx:=(H4.cell (p:=⟨g,q+j*5+4,none⟩) bd bd).trans a8;have af:=ab.D9 VD V;clear b8 C aU hx a0 a4 a5 a6 a7 a8 DZ;go_upto_region 4 with fail;have d:=(acQ wr).al rT (jC k1 i1 t1 A1 n1 c1 A2 n2 c2);have Y:=VO.below d;have o:=D.D9 (zG.below d) V;have E:Bz (wr.alloc (jC k1 i1 t1 A1 n1 c1 A2 n2 c2)) wr.heap.size k1 i1 t1 A1 n1 c1 A2 n2 c2:=World.alloc_heap_new wr _;have Q:=af.D9 (zG.below (b:=b) d) V;have Z:=yD b7 d (fun z cf=>by have:=hX z cf;have:=D.lt;omega);have K:=H4.trans (rS.of (g:=b) (d.mono ia));have T:=VD.trans (zG.below d);have U:=b0.QW K hX F;have O:wr.heap.size≠b:=iu;clear VO D af b7 H4 VD d b0 bp cp cr cs ct cx;generalize wr.alloc (jC k1 i1 t1 A1 n1 c1 A2 n2 c2)=b9 at*;generalize wr.heap.size=cS at*;by_cases c3:j=0;·have c4:¬(0:Int)<(j:Int):=V;have ak:Ih j a=a:=ru V;rw[ak]at Vg;clear ak c3;have hbW:=o.c0;obtain⟨x0,x1,x2,x3,x4⟩:=E.at_;go_wp2_with fail;refine(LP j B0 J0 b base (a) ks key a2.out b2 b9 X k i t _ n c A' n' c' Z hX b3 o Q a9 ac Y).mono ?_;rintro e' cz ⟨rfl,hp6,B,m⟩;have hB6:=o.D9 m V;have hE6:=E.D9 m O;have Zz:=U.QW B hX F;have ZD:=K.trans B;have Zu:=T.trans m;exact me
    ·have c4:(0:Int)<(j:Int):=V;have an:Ih j a=xq a [44]:=rv V;rw[an]at Vg;clear an;have br:=o.c0;go_wp2_with fail;refine(wj b base a [44] b9 Y bi).mono ?_;rintro e' cy ⟨rfl,c9,I,v⟩;have M:=o.D9 v V;have aa:=E.D9 v O;have bO:=U.QW I hX F;have bk:=Q.D9 v V;have cc:=Z.keep (fun q hq=>I.cell bG bG) (fun _ h=>h);have c8:=K.trans I;have bv:=T.trans v;clear Y o E Q Z U K T I v br;have hbW:=M.c0;obtain⟨x0,x1,x2,x3,x4⟩:=aa.at_;go_wp2_with fail;refine(LP j B0 J0 b base (xq a [44]) ks key a2.out b2 cy X k i t _ n c A' n' c' cc hX b3 M bk a9 ac c9).mono ?_;rintro e' cz ⟨rfl,hp6,B,m⟩;have hB6:=M.D9 m V;have hE6:=aa.D9 m O;have Zz:=bO.QW B hX F;have ZD:=c8.trans B;have Zu:=bv.trans m;exact me
   ·have bn:R=a:=by rw[C.out,so cK];unfold AL;rfl
    have c5:¬(j:Int)<(n:Int):=V;subst bn;clear C;go_wp2_with fail;refine(wj b base R [125] wr VO bi).mono ?_;exact eG
def Bx(w:World)(r:Nat)(vs:List Value):Prop:=∃t,w.heap[r]? =some (.cells vs.toArray t (0,0))
section
variable{w w':World}{r:Nat}{vs:List Value}
def Bx.new(w:World)(vs:Array Value)(t:TypeId)(r:Nat)(a:r=w.heap.size):Bx (w.alloc (.cells vs t)) r vs.toList:=⟨t,by rw[a];exact JJ w _⟩
def Bx.zw(h:Bx w r vs)(hb:w'.heap[r]? =w.heap[r]?):Bx w' r vs:=by obtain⟨t,h⟩:=h;exact⟨t,hb.trans h⟩
def Bx.below{B:Nat}(h:Bx w r vs)(hb:Below B w w')(a:r<B):Bx w' r vs:=h.zw (hb.block r a)
def Bx.off{B g:Nat}(h:Bx w r vs)(hb:rS g B w w')(d:r<B)(a:r≠g):Bx w' r vs:=h.zw (hb.block r d a)
def Bx.set(h:Bx w r vs)(j:Nat)(v:Value):Bx (w.setCell ⟨r,j,none⟩ v) r (vs.set j v):=by obtain⟨t,h⟩:=h;exact⟨t,by rw[heap_setCell_same w r j _ t v h];simp⟩
def Bx.c(h:Bx w r vs)(j:Nat)(v:Value)(hj:vs[j]? =some v):w.cell? ⟨r,j,none⟩=some v:=by obtain⟨t,h⟩:=h;rw[U1 w r j _ t (0,0) h];exact fu
def Bx.f(h:Bx w r vs)(j:Nat):w.frozen? ⟨r,j,none⟩=false:=by obtain⟨t,h⟩:=h;exact frozen_of_row w r j _ t h
def Bx.xB{a b c d e:Value}(h:Bx w r [a,b,c,d,e]):w.cell? ⟨r,0,none⟩=some a/\w.cell? ⟨r,1,none⟩=some b/\w.cell? ⟨r,2,none⟩=some c/\w.cell? ⟨r,3,none⟩=some d/\w.cell? ⟨r,4,none⟩=some e/\∀j,w.frozen? ⟨r,j,none⟩=false:=⟨h.c 0 a rfl,h.c 1 b rfl,h.c 2 c rfl,h.c 3 d rfl,h.c 4 e rfl,h.f⟩
def Bx.at9{a b c d e f g i j:Value}(h:Bx w r [a,b,c,d,e,f,g,i,j]):w.cell? ⟨r,0,none⟩=some a/\w.cell? ⟨r,1,none⟩=some b/\w.cell? ⟨r,2,none⟩=some c/\w.cell? ⟨r,3,none⟩=some d/\w.cell? ⟨r,4,none⟩=some e/\w.cell? ⟨r,5,none⟩=some f/\w.cell? ⟨r,6,none⟩=some g/\w.cell? ⟨r,7,none⟩=some i/\w.cell? ⟨r,8,none⟩=some j/\∀j,w.frozen? ⟨r,j,none⟩=false:=⟨h.c 0 a rfl,h.c 1 b rfl,h.c 2 c rfl,h.c 3 d rfl,h.c 4 e rfl,h.c 5 f rfl,h.c 6 g rfl,h.c 7 i rfl,h.c 8 j rfl,h.f⟩
def Bx.yk{a b c d e f g i j k:Value}(h:Bx w r [a,b,c,d,e,f,g,i,j,k]):w.cell? ⟨r,0,none⟩=some a/\w.cell? ⟨r,1,none⟩=some b/\w.cell? ⟨r,2,none⟩=some c/\w.cell? ⟨r,3,none⟩=some d/\w.cell? ⟨r,4,none⟩=some e/\w.cell? ⟨r,5,none⟩=some f/\w.cell? ⟨r,6,none⟩=some g/\w.cell? ⟨r,7,none⟩=some i/\w.cell? ⟨r,8,none⟩=some j/\w.cell? ⟨r,9,none⟩=some k/\∀j,w.frozen? ⟨r,j,none⟩=false:=⟨h.c 0 a rfl,h.c 1 b rfl,h.c 2 c rfl,h.c 3 d rfl,h.c 4 e rfl,h.c 5 f rfl,h.c 6 g rfl,h.c 7 i rfl,h.c 8 j rfl,h.c 9 k rfl,h.f⟩
end
def Bx.xa{w:World}{r:Nat}{a b c d e f:Value}(h:Bx w r [a,b,c,d,e,f]):w.cell? ⟨r,0,none⟩=some a/\w.cell? ⟨r,1,none⟩=some b/\w.cell? ⟨r,2,none⟩=some c/\w.cell? ⟨r,3,none⟩=some d/\w.cell? ⟨r,4,none⟩=some e/\w.cell? ⟨r,5,none⟩=some f/\∀j,w.frozen? ⟨r,j,none⟩=false:=⟨h.c 0 a rfl,h.c 1 b rfl,h.c 2 c rfl,h.c 3 d rfl,h.c 4 e rfl,h.c 5 f rfl,h.f⟩
def Kb(p:acO)(_:Nat)(w w':World):Prop:=∀b,p b->w'.heap[b]? =w.heap[b]?
def Kb.keeps(p:acO):zZ (Kb p):=⟨fun _ _ _ _=>rfl,fun h k b hb=>(k b hb).trans (h b hb),fun h _=>h⟩
def Kb.cell{p:acO}{a:Nat}{w w':World}(h:Kb p a w w'){q:Addr}(d:p q.block):w'.cell? q=w.cell? q:=rD (w:=w) (h _ d)
def Kb.below{p:acO}{a:Nat}{w w':World}(d:∀b,p b->b<w.heap.size)(h:Below w.heap.size w w'):Kb p a w w':=fun b hb=>h.block b (d b hb)
def Kb.El{p:acO}{d:Nat}{w w':World}{A:acN}(a:∀b,p b->b<w.heap.size/\A.map (·.block)≠some b)(h:KD A w w'):Kb p d w w':=fun b hb=>h.2 b (a b hb).1 (a b hb).2
