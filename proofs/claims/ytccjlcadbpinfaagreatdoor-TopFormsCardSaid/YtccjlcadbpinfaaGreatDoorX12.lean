import Derived.Test.YtccjlcadbpinfaaGreatDoorX10
import Derived.Test.YtccjlcadbpinfaaGreatDoorX11
set_option linter.all false
set_option maxRecDepth 100000
set_option maxHeartbeats 8000000
namespace Go.Proofs.YtccjlcadbpinfaaGreatDoor.Tp
open ChangeShapes WideShapes ChangeAt RowKit
open Num Mem Can
def Wc(g:Nat)(A:acN)(n c B:Nat)(xs:acM)(o:B<=g)(r:n<=100000000)(t:n<=c):∀f,f<=100000000->Ix xs g A n c B f/\Sb xs g A n c B f/\WR xs g A n c B f:=by
 intro f;induction f using Nat.strongRecOn with
 |_ f ih=>
  intro q;have p:∀m,m<f->Ix xs g A n c B m:=fun m v=>(ih m v V).1
  refine⟨?_,fun wd d a w R b l j k e i=>X6 g A n c B a f d xs wd w R p q b l j k o r t e i,fun wd d a w R b l j k e i=>TK g A n c B a f d xs wd w R p q b l j k o r t e i⟩;cases f with
  |zero=>intro wd d w R b;simp[vB]at b
  |succ f=>intro wd d w R b l j k e i;have h:=ih f V V;exact WD g A n c B f d xs wd w R h.2.1 h.2.2 b l j k o e i
def YD{xs:acM}{a:Nat}{e k:Int}{wd:Wd}(b:e≠0):(Dh xs a e wd k).2.1=e:=by unfold Dh DE;simp[b]
def WG{xs:acM}{a:Nat}{e k:Int}{wd:Wd}(b:se xs a=.error e):(Dh xs a 0 wd k).2.1=e:=by have d:=vU b;simp[Dh,DE,b,FJ,d]
def YE{xs:acM}{a:Nat}{k:Int}{wd w:Wd}(b:se xs a=.ok w):(Dh xs a 0 wd k).2.1=if w.kind=k then 0 else 20:=by simp[Dh,DE,b,Ci,FJ]
def I7:Except Int J->J
 | .ok j=>j
 | .error _=>J.zero
def We:Except Int J->Int
 | .ok _=>0
 | .error e=>e
def AI{b:Func}{p q:Tmp}{te:Value}(h:b.results= #[.cell p 60,.tmp q]){a:Array Value}{w:World}{r n c n' c':Nat}{k i:Int}{t:ByteArray}{A A':acN}(hp:a.getD p undef=.pointer (some ⟨r,0,none⟩))(hq:a.getD q undef=te)(g:RZ w r k i t A n c A' n' c'):(results b a).run Tryz.prog w=.ok (.tuple #[jA k i t A n c A' n' c',te]) w:=by have d:a[p]?.getD undef=.pointer (some ⟨r,0,none⟩):=iy;have e:a[q]?.getD undef=te:=fe;simp only[results,h];simp[uL,Result.andThen,d,e,asAddr,Pe g]
def Y5(w:World)(j:J)(te:Value)(e:Ending)(w':World):Prop:=∃(k i:Int)(t:ByteArray)(a:acN)(g c1:Nat)(d:acN)(h c2:Nat),e=.returned (.tuple #[jA k i t a g c1 d h c2,te])/\uf w' (fun b=>w.heap.size<=b/\b<w'.heap.size) (jv k i t a g c1 d h c2) j/\acP w w'
def LA(g:Nat)(A:acN)(n c B f:Nat)(xs:acM)(l:Ix xs g A n c B f)(o:xs.length=n){i:Except Int (J×Nat)}(a:(match se xs 0 with| .error e=>some (.error e)| .ok w=>vB xs f w 0)=some i){wd:Wd}{w1:World}(b:Ck w1 g A n c (Jf 0 (se xs 0)) (FJ (se xs 0)) (Kr wd (se xs 0)))(j:g<w1.heap.size)(k:Rd w1 B A n xs):Calls Tryz.prog 51 #[.pointer (some ⟨g,0,none⟩),.int .i64 (Ci (se xs 0)).kind,.int .i64 0] w1 (DL xs g A n c i w1):=by
 cases d:se xs 0 with
 |error e=>rw[d]at a b;simp only[sb]at a;subst a;exact HO g A n c _ 0 _ xs _ w1 b (vU d) j
 |ok m=>rw[d]at a b;have:=ux V d;exact l m 0 w1 i a b j k V V
def PQ(A:acN)(n c B f:Nat)(xs:acM)(w:World)(R:Except Int J)(l:Aj xs f=some R)(cz:f<=100000000)(c9:Rd w B A n xs)(cr:B<=w.heap.size)(af:n<=100000000)(ak:n<=c):Calls Tryz.prog 25 #[.slice A n c] w (Y5 w (I7 R) (.int .i64 (We R))):=by
 have cS:=c9.len;unfold Aj at l;by_cases U:20000<xs.length
 ·rw[rv U]at l;injection l with l;subst l;have cx:(20000:Int)<(n:Int):=V;have cy:decide ((20000:Int)<(n:Int))=true:=by simp;omega
  simp only[I7,We];clear U;go_enter Tryz.func25,Tryz.ntmps25;go_wp2_with fail;refine rV (AI (te:=.int .i64 3) (k:=0) (i:=0) (t:=⟨#[]⟩) (A:=none) (n:=0) (c:=0) (A':=none) (n':=0) (c':=0) rfl rfl rfl ⟨bf,bf,bf,bf,bf⟩) rfl ?_;refine⟨0,0,⟨#[]⟩,none,0,0,none,0,0,rfl,uf.zero _ _,?_⟩;exact lx
 ·rw[ru U]at l;have cx:¬(20000:Int)<(n:Int):=V;have cy:decide ((20000:Int)<(n:Int))=false:=by simp;omega
  clear U;have d0:∃g,(match se xs 0 with| .error e=>some (.error e)| .ok w=>vB xs f w 0)=some g/\(match g with| .error e=>some (.error e)| .ok (j,a)=>match se xs a with| .error e=>some (.error e)| .ok G=>if G.kind=11 then some (.ok j)else some (.error 20))=some R:=by
   cases y:se xs 0 with
   |error e=>rw[y]at l;exact⟨.error e,rfl,l⟩
   |ok v=>
    rw[y]at l;simp only at l|-;cases ch:vB xs f v 0 with
    |none=>rw[ch]at l;cases l
    |some g=>
     rw[ch]at l;refine⟨g,rfl,?_⟩;cases g with
     |error e=>exact l
     |ok p=>exact l
  obtain⟨g,bp,bn⟩:=d0;have b1:=rq bn;have b2:=rq bp;clear bn bp l;go_enter Tryz.func25,Tryz.ntmps25;go_upto_region 4 with fail;have ac:=((acQ w).al rT (jZ)).alloc bi (.cells #[.slice A n c,.int .i64 0,.int .i64 0,.int .i64 0,.int .i64 0,.string ⟨#[]⟩,.int .i64 0,.int .i64 0] 119);have b5:=(vC.new w 0 0 ⟨#[]⟩ none 0 0 none 0 0 w.heap.size rfl).below (vK.alloc rT (.cells #[.slice A n c,.int .i64 0,.int .i64 0,.int .i64 0,.int .i64 0,.string ⟨#[]⟩,.int .i64 0,.int .i64 0] 119)) bi;have S:Ck ((w.alloc (jZ)).alloc (.cells #[.slice A n c,.int .i64 0,.int .i64 0,.int .i64 0,.int .i64 0,.string ⟨#[]⟩,.int .i64 0,.int .i64 0] 119)) (w.heap.size+1) A n c ((0:Nat):Int) 0 ⟨0,0,[],0,0⟩:=⟨⟨bf,bf,bf,bf,bf,bf,bf,bf⟩,fun j=>bf⟩;have d1:w.heap.size+1<((w.alloc (jZ)).alloc (.cells #[.slice A n c,.int .i64 0,.int .i64 0,.int .i64 0,.int .i64 0,.string ⟨#[]⟩,.int .i64 0,.int .i64 0] 119)).heap.size:=bi;have an:=c9.tw ac cr;generalize(w.alloc (jZ)).alloc (.cells #[.slice A n c,.int .i64 0,.int .i64 0,.int .i64 0,.int .i64 0,.string ⟨#[]⟩,.int .i64 0,.int .i64 0] 119)=w1 at*;obtain⟨ct,_,_⟩:=Wc (w.heap.size+1) A n c B xs V af ak f cz;have bO:=fun(G:World) S T cp=>LA (w.heap.size+1) A n c B f xs ct cS (wd:=⟨0,0,[],0,0⟩) (w1:=G) b2.out S T cp
  have cf:=x7 (w.heap.size+1) A n c B 0 xs ⟨0,0,[],0,0⟩ w1 S d1 an V af ak (rO _);generalize(Ci (se xs 0)).kind=tk at*;generalize Jf 0 (se xs 0)=dK at*;generalize FJ (se xs 0)=te at*;generalize Kr ⟨0,0,[],0,0⟩ (se xs 0)=dM at*;have b3:=rq cf;have b0:=rq bO;clear cf bO S b2;go_wp2_with fail;refine b3.out.mono ?_;rintro e' G ⟨rfl,T,L⟩;have dd:=L.size;have b6:=b5.off L V V;have ar:=an.off L V V;have bs:=ac.trans (L.below (B':=w.heap.size) V V);clear b5 an ac L b3;go_wp2_with fail;refine(b0.out G T V ar).mono ?_;rintro e' x ⟨k,i,t,z,D,c1,C,E,c2,rfl,c3,⟨o,F,bj,aa,ab⟩,M⟩;have df:=M.size;have b7:=b6.off M V V;have cb:=ar.off M V V;have bv:=bs.trans (M.below (B':=w.heap.size) V V);clear b6 ar bs M b0 T;go_upto_region 5 with fail;have H:=(acQ x).al rT (jC k i t z D c1 C E c2);have b4:=vC.new x k i t z D c1 C E c2 x.heap.size rfl;have b8:=b7.below H V;have b9:=bj.below H V;have cc:=cb.tw H V;have bx:=bv.sV V H;have c4:=xc.keep (Y:=fun b=>w.heap.size+1<b/\b<x.heap.size) c3 (fun q X=>H.cell X.2) (fun b hb=>⟨V,hb.2⟩);have di:x.heap.size<(x.alloc (jC k i t z D c1 C E c2)).heap.size:=bi;clear H b7 bj cb bv c3;generalize x.alloc (jC k i t z D c1 C E c2)=d7 at*;generalize x.heap.size=dk at*;have br:rE g=0->o<=n:=fun h=>
   by
    cases g with
    |error e=>exact absurd h (ab e rfl)
    |ok p=>obtain⟨j,a9⟩:=p;obtain⟨rfl,h⟩:=aa j a9 rfl;omega
  have ci:=MB (w.heap.size+1) A n c B o (rE g) 11 xs F d7 b9 V cc V af ak br;have bz:((Dh xs o (rE g) F 11).2.1=0->∃j,rJ g=some j/\R=.ok j)/\((Dh xs o (rE g) F 11).2.1≠0->R=.error (Dh xs o (rE g) F 11).2.1):=by
   have m:=b1.out;cases g with
   |error e=>have r:=ab e rfl;simp only[sb]at m;simp only[rE];rw[YD r];exact⟨fun h=>absurd h r,fun _=>m.symm⟩
   |ok p=>
    obtain⟨j,a9⟩:=p;obtain⟨rfl,_⟩:=aa j a9 rfl;simp only at m;simp only[rE,rJ];cases y:se xs o with
    |error e=>rw[y]at m;have r:=vU y;simp only[sb]at m;rw[WG y];exact⟨fun h=>absurd h r,fun _=>m.symm⟩
    |ok G=>
     rw[y]at m;rw[YE y];by_cases c7:G.kind=11;·simp only[rv c7,sb]at m|-;exact⟨fun _=>⟨j,rfl,m.symm⟩,fun h=>absurd rfl h⟩
     ·simp only[ru c7,sb]at m|-;exact⟨fun h=>fW,fun _=>m.symm⟩
  generalize(Dh xs o (rE g) F 11).1=dN at*;generalize(Dh xs o (rE g) F 11).2.1=aU at*;generalize(Dh xs o (rE g) F 11).2.2=e0 at*;have Q:=rq bz;clear bz aa ab br b1;go_wp2_with fail;refine ci.mono ?_;rintro e' O ⟨rfl,be,I⟩;have dj:=I.size;have a8:=b8.off I V V;have cl:=b4.off I V V;have c5:=xc.keep (Y:=fun b=>w.heap.size+1<b/\b<O.heap.size) c4 (fun q X=>I.cell V V) (fun b hb=>⟨hb.1,V⟩);have ad:=bx.trans (I.below (B':=w.heap.size) V V);clear b8 b4 c4 bx I ci b9 cc;have a7:=rq be;obtain⟨⟨Z,a0,N,a1,a2,a3,a4,a5⟩,a6⟩:=be;by_cases r:aU=0;·obtain⟨j,c6,rfl⟩:=Q.out.1 r;subst r;rw[c6]at c5;clear Q c6;simp only[I7,We];obtain⟨⟨dp,dr,ds,dz,dB⟩,dI⟩:=cl;obtain⟨⟨u0,d2,d3,d4,d5⟩,d6⟩:=a8;go_wp2_with fail;have c8:rS w.heap.size O.heap.size O (((((O.setCell ⟨w.heap.size,0,none⟩ (.int .i64 k)).setCell ⟨w.heap.size,1,none⟩ (.int .i64 i)).setCell ⟨w.heap.size,2,none⟩ (.string t)).setCell ⟨w.heap.size,3,none⟩ (.slice z D c1)).setCell ⟨w.heap.size,4,none⟩ (.slice C E c2)):=(((((rS.refl _ _ _).setAt 0 _).setAt 1 _).setAt 2 _).setAt 3 _).setAt 4 _;refine rV (AI (te:=.int .i64 0) (k:=k) (i:=i) (t:=t) (A:=z) (n:=D) (c:=c1) (A':=C) (n':=E) (c':=c2) rfl rfl rfl ⟨bf,bf,bf,bf,bf⟩) rfl ?_;refine⟨k,i,t,z,D,c1,C,E,c2,rfl,(show uf O _ _ j from c5).keep (fun q X=>c8.cell X.2 V) (fun b hb=>⟨V,by have:=c8.size;omega⟩),?_⟩;repeat' (first|with_reducible exact ad|with_reducible refine Below.setCell ?_ bd _)
  ·have cs:=Q.out.2 r;subst cs;have d9:(aU==0)=false:=rr.2 r;clear Q;simp only[I7,We];clear Z a0 N a1 a2 a3 a4 a5 a6;obtain⟨⟨Z,a0,N,a1,a2,a3,a4,a5⟩,a6⟩:=a7.out;go_upto_region 7 with fail;clear Z a0 N a1 a2 a3 a4 a5 a6;refine td (K:=uK (fun p=>p.block=w.heap.size)) (uK.keeps _) (sk.of [0,1,2,3,4,5,6] .nil) [5] bg bg bC bg (fun _ _ d _ _ h=>bw) (fun e1 W sW=> ?_);have cj:=(a7.out.below W V);obtain⟨⟨Z,a0,N,a1,a2,a3,a4,a5⟩,a6⟩:=cj;obtain⟨⟨u0,d2,d3,d4,d5⟩,d6⟩:=a8.below W V;have Bj:=ad.sV V W;clear W a7 a8 ad;repeat((first|(refine ua rfl rfl rfl bh ?_)|(refine uq rfl rfl rfl ?_)|(refine uk rfl rfl rfl (w.heap.size+2) V _ (by intro w' hb;have e2:=(hb.cell ⟨w.heap.size+1,2,none⟩ bd cC).trans N;clear hb;go_simp;first|done|with_reducible rfl) ?_));simp only[Act.put,rB,rz,rA])
   refine rZ rfl rfl (w.heap.size+2) V (fun d8 bk=> ?_);go_wp2_with fail;refine bk _ _ ?_ ?_;·exact bY
   clear bk;repeat((first|(refine ua rfl rfl rfl bh ?_)|(refine uq rfl rfl rfl ?_)|(refine uk rfl rfl rfl (w.heap.size+2) V _ bB ?_));simp only[Act.put,rB,rz,rA])
   refine sI ?_;go_wp2_with fail;refine rV (AI (te:=.int .i64 aU) (k:=0) (i:=0) (t:=⟨#[]⟩) (A:=none) (n:=0) (c:=0) (A':=none) (n':=0) (c':=0) rfl rfl rfl ⟨bf,bf,bf,bf,bf⟩) rfl ?_;refine⟨0,0,⟨#[]⟩,none,0,0,none,0,0,rfl,uf.zero _ _,?_⟩;exact lA
mutual
def tR:J->Int
 | .mk k _ _ l _=>if k=5\/k=6 then Ae l 1 else 0
def Ae:List J->Int->Int
 | [],n=>n
 |x::r,n=>Ae r (max n (1+tR x))
end
def GN:∀(l:List J)(n:Int),n<=Ae l n
 | [],n=>by simp[Ae]
 |x::r,n=>by unfold Ae;have:=GN r (max n (1+tR x));omega
def IF:∀(l:List J)(n:Int)(i:Nat)(h:i<l.length),1+tR l[i]<=Ae l n
 |x::r,n,0,_=>by unfold Ae;have:=GN r (max n (1+tR x));simp only[List.getElem_cons_zero];omega
 |x::r,n,i+1,h=>by unfold Ae;simp only[List.getElem_cons_succ];exact IF r _ i dC
def SJ(j:J):0<=tR j:=by
 cases j with
 |mk k i t l ks=>
  unfold tR;split;·have:=GN l 1;omega
  ·omega
def uf.form{w:World}{X:acO}{cs:List Value}{j:J}(h:uf w X cs j):∃(k i:Int)(t:ByteArray)(A:acN)(n c:Nat)(A':acN)(n' c':Nat),cs=jv k i t A n c A' n' c':=by cases h;exact⟨_,_,_,_,_,_,_,_,_,rfl⟩
def yZ{w:World}{X Y:acO}{A:acN}{n:Nat}{css:List (List Value)}{items:List J}(hr:Row w X 5 A n css)(E:css.length=items.length)(B:∀(i:Nat)(h:i<css.length)(C:i<items.length),uf w Y css[i] items[i]){j:Nat}(D:j<n):∃g p x k i t b e c1 d l c2,A=some ⟨g,p,none⟩/\X g/\items[j]? =some x/\uf w Y (jv k i t b e c1 d l c2) x/\w.cell? ⟨g,p+j*5,none⟩=some (.int .i64 k)/\w.cell? ⟨g,p+j*5+1,none⟩=some (.int .i64 i)/\w.cell? ⟨g,p+j*5+2,none⟩=some (.string t)/\w.cell? ⟨g,p+j*5+3,none⟩=some (.slice b e c1)/\w.cell? ⟨g,p+j*5+4,none⟩=some (.slice d l c2):=by obtain⟨g,p,r,z,v⟩:=hr.pos V;have o:j<css.length:=cM;have q:j<items.length:=V;have m:=B j o q;obtain⟨k,i,t,b,e,c1,d,l,c2,y⟩:=m.form;have a:=(v j css[j] (ry o)).2;rw[y]at m a;exact⟨g,p,items[j],k,i,t,b,e,c1,d,l,c2,r,z,ry q,m,a 0 _ rfl,a 1 _ rfl,a 2 _ rfl,a 3 _ rfl,a 4 _ rfl⟩
def RQ:∀(N:Nat)(j:J),SizeOf.sizeOf j<=N->tR j<=1000000->∀(w:World)(X:acO)(k i:Int)(t:ByteArray)(A:acN)(n c:Nat)(A':acN)(n' c':Nat),uf w X (jv k i t A n c A' n' c') j->(∀b,X b->b<w.heap.size)->Calls Tryz.prog 29 #[jA k i t A n c A' n' c'] w fun e w'=>e=.returned (.int .i64 (tR j))/\acP w w':=by
 intro N;induction N with
 |zero=>exact eX
 |succ N ih=>
  intro j hj' d w X k i t A n c A' n' c' h hX;cases h with
  |mk hr hl hi z B C v y=>
   rename_i text items keys css;unfold tR at d|-;by_cases a:k=5\/k=6
   ·rw[rv a]at d|-;obtain⟨R,l⟩:∃R,R=Ae items 1:=⟨_,rfl⟩;rw[<-l]at d|-;have HR:=rq l;clear l;go_enter Tryz.func29,Tryz.ntmps29;rcases a with rfl|rfl;·go_wp2_with fail;have tm:=(acQ w).al rT (jC 5 i ⟨text.toArray⟩ A n c A' n' c');have o:w.heap.size<(w.alloc (jC 5 i ⟨text.toArray⟩ A n c A' n' c')).heap.size:=bi;have m:(w.alloc (jC 5 i ⟨text.toArray⟩ A n c A' n' c')).cell? ⟨w.heap.size,3,none⟩=some (.slice A n c):=bf;generalize w.alloc (jC 5 i ⟨text.toArray⟩ A n c A' n' c')=w1 at*;exact ll
    ·go_wp2_with fail;have tm:=(acQ w).al rT (jC 6 i ⟨text.toArray⟩ A n c A' n' c');have o:w.heap.size<(w.alloc (jC 6 i ⟨text.toArray⟩ A n c A' n' c')).heap.size:=bi;have m:(w.alloc (jC 6 i ⟨text.toArray⟩ A n c A' n' c')).cell? ⟨w.heap.size,3,none⟩=some (.slice A n c):=bf;generalize w.alloc (jC 6 i ⟨text.toArray⟩ A n c A' n' c')=w1 at*;exact ll
   ·rw[ru a]at d|-;have q:(k==5)=false:=rr.2 (fun h=>a (.inl h));have r:(k==6)=false:=rr.2 (fun h=>a (.inr h));clear a;go_enter Tryz.func29,Tryz.ntmps29;go_wp2_with fail;go_ret;exact⟨rfl,vK.al rT _⟩
def G3(ks:List acM)(k:acM):Int:=Lib.idxOfS (DN ks) ⟨k.toArray⟩
def tZ(j:J)(key:acM):Option J:=if j.kind=6/\0<=G3 j.keys key then j.items[(G3 j.keys key).toNat]? else none
def Iu{X:acO}{A:acN}{n c:Nat}{ks:List acM}(k:acM)(w:World)(h:Row w X 1 A n (uF ks))(g:n<=1000000000):Calls Tryz.prog 178 #[.slice A n c,.string ⟨k.toArray⟩] w fun e w'=>e=.returned (.int .i64 (G3 ks k))/\w=w':=by
 have hl:ks.length=n:=nP;unfold G3;by_cases a:n=0;·subst a;have:ks=[]:=rI hl;subst this;exact(Tryz.slices_Index_string_empty A c ⟨k.toArray⟩ w).mono fun _ _ h=>⟨h.1,h.2.symm⟩
 ·obtain⟨b,off,rfl,d⟩:=F0 h V;refine(Tryz.slices_Index_string b off n c (DN ks) ⟨k.toArray⟩ w iV V d).mono fun _ _ h=>⟨?_,h.2.symm⟩
  rw[h.1,xQ iV]
def yD{w:World}{X:acO}{A':acN}{n':Nat}{keys:List acM}{w':World}{B:Nat}(h:Row w X 1 A' n' (uF keys))(hb:Below B w w')(a:∀b,X b->b<B):Row w' X 1 A' n' (uF keys):=h.keep (fun q d=>hb.cell (a _ d)) (fun _ h=>h)
def yd(j:J)(key:acM)(w:World)(X:acO)(k i:Int)(t:ByteArray)(A:acN)(n c:Nat)(A':acN)(n' c':Nat)(h:uf w X (jv k i t A n c A' n' c') j)(G:∀b,X b->b<w.heap.size):Calls Tryz.prog 207 #[jA k i t A n c A' n' c',.string ⟨key.toArray⟩] w fun e w'=>∃(r o:Int)(z:ByteArray)(d:acN)(v c1:Nat)(l:acN)(y c2:Nat),e=.returned (.tuple #[jA r o z d v c1 l y c2,.bool (tZ j key).isSome])/\uf w' X (jv r o z d v c1 l y c2) ((tZ j key).getD J.zero)/\acP w w':=by
 cases h with
 |mk S a4 a1 a3 b3 b4 ak an=>
  rename_i text items keys css;obtain⟨a,I⟩:∃a,a=tZ (.mk k i text items keys) key:=⟨_,rfl⟩;rw[<-I];have D:=rq (show a=if k=6/\0<=G3 keys key then items[(G3 keys key).toNat]? else none from I);clear I;have b1:=S.len;have tm:=((acQ w).al rT (jC k i ⟨text.toArray⟩ A n c A' n' c')).alloc bi (jZ);have C:=Iu (c:=c') key _ (yD a3 tm G) V;obtain⟨E,K⟩:∃E,E=G3 keys key:=⟨_,rfl⟩;rw[<-K]at C;have H:=rq K;clear K;have U:=(vC.new w k i ⟨text.toArray⟩ A n c A' n' c' w.heap.size rfl).below (vK.alloc rT (jZ)) bi;have W:=vC.new (w.alloc (jC k i ⟨text.toArray⟩ A n c A' n' c')) 0 0 ⟨#[]⟩ none 0 0 none 0 0 (w.heap.size+1) bi;have b6:w.heap.size+1<((w.alloc (jC k i ⟨text.toArray⟩ A n c A' n' c')).alloc (jZ)).heap.size:=bi;go_enter Tryz.func207,Tryz.ntmps207;go_upto_region 1 with fail;generalize(w.alloc (jC k i ⟨text.toArray⟩ A n c A' n' c')).alloc (jZ)=w1 at*;obtain⟨⟨a9,aa,ab,ac,ad⟩,af⟩:=U;obtain⟨⟨u0,bk,bn,bp,br⟩,bs⟩:=W;go_wp2_with fail;refine C.mono ?_;rintro e' bv ⟨rfl,rfl⟩;clear C;by_cases F:k=6
  ·subst F;by_cases L:0<=E
   ·obtain⟨m,rfl⟩:=tD L;have b2:decide ((m:Int)<0)=false:=bi;by_cases a5:m<n
    ·have a6:(m:Int)<(n:Int):=V;have Y:decide ((n:Int)<=(m:Int))=false:=by simp;omega
     have Z:decide (n<=m)=false:=by simp;omega
     obtain⟨g,p,x,r,o,z,d,v,c1,l,y,c2,rfl,a0,T,C,M,N,O,Q,R⟩:=yZ S a4 a1 a5;have B:=G g a0;have b7:=(tm.cell (p:=⟨g,p+m*5,none⟩) B).trans M;have b8:=(tm.cell (p:=⟨g,p+m*5+1,none⟩) B).trans N;have b9:=(tm.cell (p:=⟨g,p+m*5+2,none⟩) B).trans O;have be:=(tm.cell (p:=⟨g,p+m*5+3,none⟩) B).trans Q;have bj:=(tm.cell (p:=⟨g,p+m*5+4,none⟩) B).trans R;obtain rfl:a=some x:=by rw[D.out,<-H.out,rv ⟨rfl,V⟩,rW,T]
     simp only[Dr,Option.getD_some];have a2:=C.stay tm G;clear M N O Q R T;go_wp2_with fail;refine rV (AI (te:=.bool true) (k:=r) (i:=o) (t:=z) (A:=d) (n:=v) (c:=c1) (A':=l) (n':=y) (c':=c2) rfl rfl rfl ⟨bf,bf,bf,bf,bf⟩) rfl ?_;refine⟨r,o,z,d,v,c1,l,y,c2,rfl,a2.keep (fun q a8=> ?_) (fun _ h=>h),?_⟩;·have b5:=G _ a8;have a7:rS (w.heap.size+1) w1.heap.size w1 (((((w1.setCell ⟨w.heap.size+1,0,none⟩ (.int .i64 r)).setCell ⟨w.heap.size+1,1,none⟩ (.int .i64 o)).setCell ⟨w.heap.size+1,2,none⟩ (.string z)).setCell ⟨w.heap.size+1,3,none⟩ (.slice d v c1)).setCell ⟨w.heap.size+1,4,none⟩ (.slice l y c2)):=(((((rS.refl _ _ _).setAt 0 _).setAt 1 _).setAt 2 _).setAt 3 _).setAt 4 _;exact a7.cell V V
     ·exact lX
    ·have a6:(n:Int)<=(m:Int):=V;have Y:decide ((n:Int)<=(m:Int))=true:=by simp;omega
     have Z:decide (n<=m)=true:=by simp;omega
     obtain rfl:a=none:=by rw[D.out,<-H.out,rv ⟨rfl,V⟩,rW,ta V]
     simp only[Dq,Option.getD_none];go_wp2_with fail;exact lG
   ·have ar:E<0:=V;obtain rfl:a=none:=by rw[D.out,<-H.out];exact ru (fun h=>L h.2)
    simp only[Dq,Option.getD_none];clear L;go_wp2_with fail;exact lG
  ·have b0:(k==6)=false:=rr.2 F;obtain rfl:a=none:=by rw[D.out];exact ru (fun h=>F h.1)
   simp only[Dq,Option.getD_none];have aU:decide (k=6)=false:=by simp[F]
   go_wp2_with fail;exact lG
structure Fd where
 name:acM
 aliases:List acM
 type:Int
 has:Bool
 sO:J
structure Nd where
 kind:Int
 name:acM
 aliases:List acM
 fields:List Fd
 symbols:List acM
 has:Bool
 sO:acM
 size:Int
 items:Int
 rR:List Int
structure Sc where
 nodes:List Nd
 root:Int
def yI(l:List Int):List (List Value):=l.map fun i=>[.int .i64 i]
inductive Bw(w:World)(X:acO):List Value->Fd->Prop
 |mk {f:Fd} {A:acN} {n c:Nat} {k i:Int} {t:ByteArray} {B:acN} {m d:Nat} {B':acN} {m' d':Nat} (ha:Row w X 1 A n (uF f.aliases)) (hc:n<=c) (hn:n<=100000000) (hj:uf w X (jv k i t B m d B' m' d') f.sO):Bw w X [.string ⟨f.name.toArray⟩,.slice A n c,.int .i64 f.type,.bool f.has,.int .i64 k,.int .i64 i,.string t,.slice B m d,.slice B' m' d'] f
def Bw.keep{w w':World}{X Y:acO}{cs:List Value}{f:Fd}(h:Bw w X cs f)(d:∀q:Addr,X q.block->w'.cell? q=w.cell? q)(a:∀b,X b->Y b):Bw w' Y cs f:=by
 cases h with
 |mk e g j i=>exact .mk (e.keep d a) g j (i.keep d a)
def Yx:Way Bw 9:=⟨fun h b a=>h.keep b a,fun h=>by cases h;rfl,fun h=>jz⟩
def yJ(w:World)(X:acO)(A:acN)(n:Nat)(l:List Fd):Prop:=∃css,Row w X 9 A n css/\css.length=l.length/\∀(i:Nat)(h:i<css.length)(a:i<l.length),Bw w X css[i] l[i]
def yJ.keep{w w':World}{X Y:acO}{A:acN}{n:Nat}{l:List Fd}(h:yJ w X A n l)(hk:∀q:Addr,X q.block->w'.cell? q=w.cell? q)(hY:∀b,X b->Y b):yJ w' Y A n l:=fZ
def yJ.len{w:World}{X:acO}{A:acN}{n:Nat}{l:List Fd}(h:yJ w X A n l):l.length=n:=kq
inductive Fu(w:World)(X:acO):List Value->Nd->Prop
 |mk {x:Nd} {A1:acN} {n1 c1:Nat} {A2:acN} {n2 c2:Nat} {A3:acN} {n3 c3:Nat} {A4:acN} {n4 c4:Nat} (h1:Row w X 1 A1 n1 (uF x.aliases)) (h2:yJ w X A2 n2 x.fields) (h3:Row w X 1 A3 n3 (uF x.symbols)) (h4:Row w X 1 A4 n4 (yI x.rR)) (hc1:n1<=c1) (hc2:n2<=c2) (hc3:n3<=c3) (hc4:n4<=c4) (hn1:n1<=100000000) (hn2:n2<=100000000) (hn3:n3<=100000000) (hn4:n4<=100000000):Fu w X [.int .i64 x.kind,.string ⟨x.name.toArray⟩,.slice A1 n1 c1,.slice A2 n2 c2,.slice A3 n3 c3,.bool x.has,.string ⟨x.sO.toArray⟩,.int .i64 x.size,.int .i64 x.items,.slice A4 n4 c4] x
section
variable{w w':World}{B:Nat}
def Fu.keep{X Y:acO}{cs:List Value}{x:Nd}(h:Fu w X cs x)(d:∀q:Addr,X q.block->w'.cell? q=w.cell? q)(a:∀b,X b->Y b):Fu w' Y cs x:=by
 cases h with
 |mk e g i j k l m n o p r t=>exact .mk (e.keep d a) (g.keep d a) (i.keep d a) (j.keep d a) k l m n o p r t
def abm:Way Fu 10:=⟨fun h b a=>h.keep b a,fun h=>by cases h;rfl,fun h=>jz⟩
def tV(w:World)(X:acO)(A:acN)(n:Nat)(l:List Nd):Prop:=∃css,Row w X 10 A n css/\css.length=l.length/\∀(i:Nat)(h:i<css.length)(a:i<l.length),Fu w X css[i] l[i]
def tV.keep{X Y:acO}{A:acN}{n:Nat}{l:List Nd}(h:tV w X A n l)(hk:∀q:Addr,X q.block->w'.cell? q=w.cell? q)(hY:∀b,X b->Y b):tV w' Y A n l:=fZ
def tV.len{X:acO}{A:acN}{n:Nat}{l:List Nd}(h:tV w X A n l):l.length=n:=kq
def tV.below{X:acO}{A:acN}{n:Nat}{l:List Nd}(h:tV w X A n l)(hb:Below B w w')(a:∀b,X b->b<B):tV w' X A n l:=h.keep (fun q d=>hb.cell (a _ d)) (fun _ h=>h)
def yJ.below{X:acO}{A:acN}{n:Nat}{l:List Fd}(h:yJ w X A n l)(hb:Below B w w')(a:∀b,X b->b<B):yJ w' X A n l:=h.keep (fun q d=>hb.cell (a _ d)) (fun _ h=>h)
def Row.below{X:acO}{A:acN}{k n:Nat}{l:List (List Value)}(h:Row w X k A n l)(hb:Below B w w')(a:∀b,X b->b<B):Row w' X k A n l:=h.keep (fun q d=>hb.cell (a _ d)) (fun _ h=>h)
def uW{X:acO}{A:acN}{n:Nat}{l:List Nd}(h:tV w X A n l){j:Nat}(U:j<n):∃g p x k b c1 m d c2 o e r q i t,A=some ⟨g,p,none⟩/\X g/\l[j]? =some x/\(w.cell? ⟨g,p+j*10,none⟩=some (.int .i64 x.kind)/\w.cell? ⟨g,p+j*10+1,none⟩=some (.string ⟨x.name.toArray⟩)/\w.cell? ⟨g,p+j*10+2,none⟩=some (.slice k b c1)/\w.cell? ⟨g,p+j*10+3,none⟩=some (.slice m d c2)/\w.cell? ⟨g,p+j*10+4,none⟩=some (.slice o e r)/\w.cell? ⟨g,p+j*10+5,none⟩=some (.bool x.has)/\w.cell? ⟨g,p+j*10+6,none⟩=some (.string ⟨x.sO.toArray⟩)/\w.cell? ⟨g,p+j*10+7,none⟩=some (.int .i64 x.size)/\w.cell? ⟨g,p+j*10+8,none⟩=some (.int .i64 x.items)/\w.cell? ⟨g,p+j*10+9,none⟩=some (.slice q i t))/\(Row w X 1 k b (uF x.aliases)/\yJ w X m d x.fields/\Row w X 1 o e (uF x.symbols)/\Row w X 1 q i (yI x.rR))/\(b<=c1/\d<=c2/\e<=r/\i<=t)/\b<=100000000/\d<=100000000/\e<=100000000/\i<=100000000:=by
 obtain⟨css,hr,W,H⟩:=h;obtain⟨g,p,z,G,B⟩:=hr.pos V;have v:j<css.length:=cM;have y:j<l.length:=V;have N:=H j v y;have a:=(B j css[j] (ry v)).2;generalize css[j]=cs at*;generalize O:l[j]=x at*;cases N with
 |mk Q R S T C D E F I K L M=>exact⟨g,p,_,_,_,_,_,_,_,_,_,_,_,_,_,z,G,by rw[ry y,O],⟨a 0 _ rfl,a 1 _ rfl,a 2 _ rfl,a 3 _ rfl,a 4 _ rfl,a 5 _ rfl,a 6 _ rfl,a 7 _ rfl,a 8 _ rfl,a 9 _ rfl⟩,⟨Q,R,S,T⟩,⟨C,D,E,F⟩,I,K,L,M⟩
def yY{X:acO}{A:acN}{n:Nat}{l:List Fd}(h:yJ w X A n l){j:Nat}(L:j<n):∃g p x e b c1 k i t B m d B' v o,A=some ⟨g,p,none⟩/\X g/\l[j]? =some x/\(w.cell? ⟨g,p+j*9,none⟩=some (.string ⟨x.name.toArray⟩)/\w.cell? ⟨g,p+j*9+1,none⟩=some (.slice e b c1)/\w.cell? ⟨g,p+j*9+2,none⟩=some (.int .i64 x.type)/\w.cell? ⟨g,p+j*9+3,none⟩=some (.bool x.has)/\w.cell? ⟨g,p+j*9+4,none⟩=some (.int .i64 k)/\w.cell? ⟨g,p+j*9+5,none⟩=some (.int .i64 i)/\w.cell? ⟨g,p+j*9+6,none⟩=some (.string t)/\w.cell? ⟨g,p+j*9+7,none⟩=some (.slice B m d)/\w.cell? ⟨g,p+j*9+8,none⟩=some (.slice B' v o))/\Row w X 1 e b (uF x.aliases)/\uf w X (jv k i t B m d B' v o) x.sO/\b<=c1/\b<=100000000:=by
 obtain⟨css,hr,M,F⟩:=h;obtain⟨g,p,y,E,C⟩:=hr.pos V;have q:j<css.length:=cM;have r:j<l.length:=V;have I:=F j q r;have a:=(C j css[j] (ry q)).2;generalize css[j]=cs at*;generalize K:l[j]=x at*;cases I with
 |mk z D H G=>exact⟨g,p,_,_,_,_,_,_,_,_,_,_,_,_,_,y,E,by rw[ry r,K],⟨a 0 _ rfl,a 1 _ rfl,a 2 _ rfl,a 3 _ rfl,a 4 _ rfl,a 5 _ rfl,a 6 _ rfl,a 7 _ rfl,a 8 _ rfl⟩,z,G,D,H⟩
end
abbrev nA(x:Nd)(a:acN)(i c1:Nat)(b:acN)(j c2:Nat)(d:acN)(k g:Nat)(e:acN)(l h:Nat):Value:=.agg #[.int .i64 x.kind,.string ⟨x.name.toArray⟩,.slice a i c1,.slice b j c2,.slice d k g,.bool x.has,.string ⟨x.sO.toArray⟩,.int .i64 x.size,.int .i64 x.items,.slice e l h]
abbrev nC(x:Nd)(a:acN)(i c1:Nat)(b:acN)(j c2:Nat)(d:acN)(k g:Nat)(e:acN)(l h:Nat):Go.Obj:=.cells #[.int .i64 x.kind,.string ⟨x.name.toArray⟩,.slice a i c1,.slice b j c2,.slice d k g,.bool x.has,.string ⟨x.sO.toArray⟩,.int .i64 x.size,.int .i64 x.items,.slice e l h] 79
abbrev nL(x:Nd)(a:acN)(i c1:Nat)(b:acN)(j c2:Nat)(d:acN)(k g:Nat)(e:acN)(l h:Nat):List Value:=[.int .i64 x.kind,.string ⟨x.name.toArray⟩,.slice a i c1,.slice b j c2,.slice d k g,.bool x.has,.string ⟨x.sO.toArray⟩,.int .i64 x.size,.int .i64 x.items,.slice e l h]
abbrev fC(f:Fd)(a:acN)(h e:Nat)(k i:Int)(t:ByteArray)(B:acN)(m d:Nat)(B':acN)(g b:Nat):Go.Obj:=.cells #[.string ⟨f.name.toArray⟩,.slice a h e,.int .i64 f.type,.bool f.has,.int .i64 k,.int .i64 i,.string t,.slice B m d,.slice B' g b] 82
abbrev fL(f:Fd)(a:acN)(h e:Nat)(k i:Int)(t:ByteArray)(B:acN)(m d:Nat)(B':acN)(g b:Nat):List Value:=[.string ⟨f.name.toArray⟩,.slice a h e,.int .i64 f.type,.bool f.has,.int .i64 k,.int .i64 i,.string t,.slice B m d,.slice B' g b]
