import Derived.Test.YtccjlcadbpinfaaGreatDoorX15
import Derived.Test.YtccjlcadbpinfaaGreatDoorX22
import Derived.Test.YtccjlcadbpinfaaGreatDoorX21
import Derived.Laws.EntriesVeiled
import Derived.RegionTactic
set_option linter.all false
set_option maxRecDepth 100000
set_option maxHeartbeats 16000000
namespace Go.Proofs.YtccjlcadbpinfaaGreatDoor.Tp
open ChangeShapes WideShapes ChangeAt RowKit
open Num Mem Can
def RP(w:World)(lo a:Nat)(cs:List Value)(x:Nd):Prop:=∃(l:acN)(g c1:Nat)(m:acN)(d c2:Nat)(n:acN)(j p:Nat)(o:acN)(k r:Nat)(q:Nat)(e:List (List Value)),cs=(nL x l g c1 m d c2 n j p o k r)/\Row w (fun b=>(lo<=b/\b<a)/\b≠q) 1 l g (uF x.aliases)/\Row w (fun b=>(lo<=b/\b<a)/\b≠q) 1 n j (uF x.symbols)/\Row w (fun b=>(lo<=b/\b<a)/\b≠q) 1 o k (yI x.rR)/\(g<=c1/\d<=c2/\j<=p/\k<=r)/\(g<=100000000/\d<=100000000/\j<=100000000/\k<=100000000)/\(lo<=q/\q<=a)/\(0<d->m=some ⟨q,0,none⟩/\q<a/\At w q 9 e)/\(e.length=d/\x.fields.length=d)/\∀(i:Nat)(h:i<e.length)(t:i<x.fields.length),Bw w (fun b=>(lo<=b/\b<a)/\b≠q) e[i] x.fields[i]
def RP.keep{w w':World}{lo g:Nat}{cs:List Value}{x:Nd}(h:RP w lo g cs x)(j:∀b,lo<=b->b<g->w'.heap[b]? =w.heap[b]?):RP w' lo g cs x:=by
 obtain⟨m,E,c1,n,F,c2,o,G,t,r,H,v,q,y,a,I,K,L,A,D,l,e,C,B⟩:=h;have d:∀p:Addr,((lo<=p.block/\p.block<g)/\p.block≠q)->w'.cell? p=w.cell? p:=fun p k=>rD (w:=w) (j _ k.1.1 k.1.2)
 exact⟨m,E,c1,n,F,c2,o,G,t,r,H,v,q,y,a,I.keep d (fun _ h=>h),K.keep d (fun _ h=>h),L.keep d (fun _ h=>h),A,D,l,fun a=>⟨(e a).1,(e a).2.1,(e a).2.2.keep (j q l.1 (e a).2.1)⟩,C,fun i h z=>(B i h z).keep d (fun _ h=>h)⟩
def RP.isN{w:World}{lo a:Nat}{cs:List Value}{x:Nd}(h:RP w lo a cs x):Fu w (fun b=>lo<=b/\b<a) cs x:=by
 obtain⟨H,O,c1,I,e,c2,K,Q,M,L,R,N,q,g,rfl,E,F,G,⟨o,p,r,t⟩,⟨z,A,B,C⟩,D,v,d,y⟩:=h;refine .mk (E.keep (fun _ _=>rfl) (fun b hb=>hb.1)) ⟨g,?_,V,fun i h j=>(y i h j).keep (fun _ _=>rfl) (fun b hb=>hb.1)⟩ (F.keep (fun _ _=>rfl) (fun b hb=>hb.1)) (G.keep (fun _ _=>rfl) (fun b hb=>hb.1)) o p r t z A B C;by_cases k:0<e;·obtain⟨l,m,n⟩:=v k;rw[l];exact n.row d.1 _ ⟨D.1,m⟩
 ·obtain rfl:e=0:=V;rw[rI d.1];exact ik
def Z8(w:World)(H:Nat)(A:acN)(n c:Nat)(S:List Nd):Prop:=∃(a:Nat)(css:List (List Value))(h:Nat->Nat),(css.length=n/\S.length=n/\n<=c)/\(0<n->A=some ⟨a,0,none⟩/\At w a 10 css)/\(H<=a/\a<h 0)/\(∀i,i<n->h i<=h (i+1))/\h n<=w.heap.size/\∀(i:Nat)(d:i<css.length)(b:i<S.length),RP w (h i) (h (i+1)) css[i] S[i]
def Pl{h:Nat->Nat}{n:Nat}(a:∀i,i<n->h i<=h (i+1)):∀(d i:Nat),i+d<=n->h i<=h (i+d)
 |0,i,_=>rN _
 |d+1,i,b=>sG (Pl a d i V) (a (i+d) V)
def vi{h:Nat->Nat}{n:Nat}(a:∀i,i<n->h i<=h (i+1)){i j:Nat}(b:i<=j)(d:j<=n):h i<=h j:=by have:=Pl a (j-i) i V;rwa[show i+(j-i)=j from V]at this
def Z8.Md{w:World}{H:Nat}{A:acN}{n c:Nat}{S:List Nd}(o:Z8 w H A n c S):tV w (fun b=>H<=b/\b<w.heap.size) A n S:=by
 obtain⟨r,css,h,⟨d,x,_⟩,j,k,a,y,l⟩:=o;refine⟨css,?_,V,fun i p q=>(l i p q).isN.keep (fun _ _=>rfl) (fun b hb=> ?_)⟩
 ·by_cases g:0<n;·obtain⟨e,m⟩:=j g;rw[e];exact m.row d _ ⟨k.1,by have:=vi a (rO n) (rN n);omega⟩
  ·obtain rfl:n=0:=V;rw[rI d];exact ik
 ·have t:=vi a (rO i) (show i<=n from V);have v:=vi a (show i+1<=n from V) (rN n);exact⟨V,V⟩
structure KM{α:Type}(Is:World->(Nat->Prop)->List Value->α->Prop)(k:Nat)(w:World)(H G:Nat)(j:Nat)(Co:List (List Value))(items:List α)(css:List (List Value)):Prop where
 at_:At w G k css
 len:css.length=Co.length
 done:∀(i:Nat)(h:i<css.length)(h':i<items.length),i<j->Is w (fun b=>(H<=b/\b<w.heap.size)/\b≠G) css[i] items[i]
 rest:∀i,j<=i->css[i]? =Co[i]?
def KM.keep{l:Type}{d:World->(Nat->Prop)->List Value->l->Prop}{k:Nat}(o:Way d k){w w':World}{H a j:Nat}{Co css:List (List Value)}{items:List l}(h:KM d k w H a j Co items css)(v:w.heap.size<=w'.heap.size)(hb:∀b,H<=b->b<w.heap.size->w'.heap[b]? =w.heap[b]?)(m:a<w.heap.size)(n:H<=a):KM d k w' H a j Co items css:=⟨h.at_.keep (hb a n m),h.len,fun i p r t=>o.keep (h.done i p r t) (fun q g=>rD (w:=w) (hb _ g.1.1 g.1.2)) (fun b e=>⟨⟨e.1.1,V⟩,e.2⟩),h.rest⟩
def KM.step{l:Type}{d:World->(Nat->Prop)->List Value->l->Prop}{k:Nat}(o:Way d k){w w':World}{H a j:Nat}{Co css:List (List Value)}{items:List l}(h:KM d k w H a j Co items css)(v:w.heap.size<=w'.heap.size)(hb:∀b,H<=b->b<w.heap.size->b≠a->w'.heap[b]? =w.heap[b]?){cs:List Value}(p:At w' a k (css.set j cs))(t:j<css.length){x:l}(hx:items[j]? =some x)(r:d w' (fun b=>(H<=b/\b<w'.heap.size)/\b≠a) cs x):KM d k w' H a (j+1) Co items (css.set j cs):=by
 refine⟨p,by rw[sT];exact h.len,?_,?_⟩
 ·intro i n YQ hij;rw[sT]at n;rw[Fw];split;·rename_i e;subst e;have:items[j]=x:=kg;rw[this];exact r
  ·rename_i e;exact o.keep (h.done i n YQ V) (fun q g=>rD (w:=w) (hb _ g.1.1 g.1.2 g.2)) (fun b m=>⟨⟨m.1.1,V⟩,m.2⟩)
 ·exact nI
def Pf{w:World}{r:Nat}{A:acN}{n c:Nat}{root:Int}(a:w.cell? ⟨r,0,none⟩=some (.slice A n c))(b:w.cell? ⟨r,1,none⟩=some (.int .i64 root)):(loadVar 32 ⟨r,0,none⟩).run Tryz.prog w=.ok (.agg #[.slice A n c,.int .i64 root]) w:=bf
def T0{w:World}{r:Nat}{A:acN}{n c:Nat}{root:Int}{a:Func}{p:Tmp}(h:a.results= #[.cell p 32]){b:Array Value}(g:b.getD p undef=.pointer (some ⟨r,0,none⟩))(d:w.cell? ⟨r,0,none⟩=some (.slice A n c))(e:w.cell? ⟨r,1,none⟩=some (.int .i64 root)):(results a b).run Tryz.prog w=.ok (.agg #[.slice A n c,.int .i64 root]) w:=by rw[zV h,g];simp only[asAddr,vm,tK];exact Pf d e
def CpI(w b:World)(n:Nat)(root:Int)(css:List (List Value))(s:Value):Prop:=∃(a:Nat)(e:acN)(c1:Nat),s=.pointer (some ⟨a,0,none⟩)/\b.cell? ⟨a,0,none⟩=some (.slice e n c1)/\b.cell? ⟨a,1,none⟩=some (.int .i64 root)/\(w.heap.size<=a/\a<b.heap.size)/\n<=c1/\(0<n->∃d,e=some ⟨d,0,none⟩/\(w.heap.size<=d/\d<b.heap.size)/\d≠a/\At b d 10 css)/\Below w.heap.size w b
structure Z7(w:World)(Hc G i:Nat)(Co:List (List Value))(S:List Nd)(css:List (List Value))(h:Nat->Nat):Prop where
 at_:At w G 10 css
 len:css.length=Co.length
 low:h 0=Hc
 mono:∀k,k<i->h k<=h (k+1)
 top:h i<=w.heap.size
 done:∀(k:Nat)(hk:k<css.length)(h':k<S.length),k<i->RP w (h k) (h (k+1)) css[k] S[k]
 rest:∀k,i<=k->css[k]? =Co[k]?
def Z7.step{w w':World}{a d i:Nat}{Co css:List (List Value)}{S:List Nd}{h:Nat->Nat}(hc:Z7 w a d i Co S css h)(p:w.heap.size<=w'.heap.size)(hb:∀b,a<=b->b<w.heap.size->w'.heap[b]? =w.heap[b]?){cs:List Value}(j:At w' d 10 (css.set i cs))(o:i<css.length){x:Nd}(hx:S[i]? =some x)(l:RP w' (h i) w'.heap.size cs x):Z7 w' a d (i+1) Co S (css.set i cs) (fun k=>if k<=i then h k else w'.heap.size):=by
 refine⟨j,by rw[sT];exact hc.len,(by show(if 0<=i then h 0 else w'.heap.size)=a;rw[rv (rO _)];exact hc.low),?_,(by show(if i+1<=i then h (i+1)else w'.heap.size)<=w'.heap.size;rw[ru V];exact iW),?_,?_⟩
 ·intro k hk;by_cases g:k<i;·rw[rv V,rv V];exact hc.mono k g
  ·obtain rfl:k=i:=V;rw[rv V,ru V];have:=hc.top;omega
 ·intro k hk RF g;rw[sT]at hk;rw[Fw];by_cases e:i=k;·subst e;have:S[i]=x:=ki;rw[this,rv rT,ru V,rv rfl];exact l
  ·rw[rv V,rv V,ru e];refine(hc.done k hk RF V).keep (fun b m n=>hb b ?_ ?_);·have:=vi hc.mono (rO k) V;have:=hc.low;omega
   ·have:=vi hc.mono (show k+1<=i from V) (rN i);have:=hc.top;omega
 ·exact nJ
structure TF(g h:Nat)(w w':World):Prop where
 size:w.heap.size<=w'.heap.size
 block:∀k,k<w.heap.size->k≠g->k≠h->(∀cur fz,w.heap[k]?≠some (.cells cur 5 fz))->w'.heap[k]? =w.heap[k]?
section
variable{g h b:Nat}{w w' m:World}{e n c:Nat}(i:Nat)(u:Value)
def TF.refl(g h:Nat)(w:World):TF g h w w:=⟨rN _,fun _ _ _ _ _=>rfl⟩
def TF.trans(a:TF g h w w')(b:TF g h w' m):TF g h w m:=⟨sG a.size b.size,fun j k d i l=>by have e:=a.block j k d i l;rw[b.block j (sj k a.size) d i (by rw[e];exact l),e]⟩
def TF.below(a:Below w.heap.size w w'):TF g h w w':=⟨a.size,fun k b _ _ _=>a.block k b⟩
def TF.ES:TF g h w (w.setCell ⟨g,i,none⟩ u):=⟨bi,fun k b a _ _=>((rS.refl g w.heap.size w).setAt i u).block k b a⟩
def TF.Iq:TF g h w (w.setCell ⟨h,i,none⟩ u):=⟨bi,fun k b _ a _=>((rS.refl h w.heap.size w).setAt i u).block k b a⟩
def QX{A:acN}{xs:acM}(i:Mem.Own w e A n c xs){k:Nat}(b:A.map (·.block)=some k):∃d fz,w.heap[k]? =some (.cells d 5 fz):=by
 rcases i.2 with⟨a,_⟩|⟨g,cap,d,a,_,h,_⟩;·injection a with a;rw[a]at b;simp at b
 ·injection a with a;rw[a]at b;simp only[uj,sb]at b;subst b;exact⟨_,_,h⟩
def TF.gro{A A':acN}{xs:acM}{w w':World}(ho:Mem.Own w b A n c xs)(a:xm A w A' w'):TF g h w w':=⟨a.size,fun k d _ _ hn=>a.block k d fun he=>jX⟩
def TF.El{A:acN}{xs:acM}{w w':World}(ho:Mem.Own w b A n c xs)(a:KD A w w'):TF g h w w':=⟨a.1,fun k d _ _ hn=>a.2 k d fun he=>jX⟩
end
structure sr(g h B:Nat)(w w':World):Prop where
 env:w'.os=w.os/\w'.tape=w.tape/\w'.output=w.output
 size:w.heap.size<=w'.heap.size
 block:∀k,k<B->k≠g->k≠h->w'.heap[k]? =w.heap[k]?
section
variable{g h B B':Nat}{w w' j:World}(i:Nat)(u:Value)
def sr.refl(g h B:Nat)(w:World):sr g h B w w:=⟨⟨rfl,rfl,rfl⟩,rN _,fun _ _ _ _=>rfl⟩
def sr.trans(a:sr g h B w w')(b:sr g h B w' j):sr g h B w j:=⟨⟨b.env.1.trans a.env.1,b.env.2.1.trans a.env.2.1,b.env.2.2.trans a.env.2.2⟩,sG a.size b.size,fun k i d e=>(b.block k i d e).trans (a.block k i d e)⟩
def sr.below(a:Below B w w'):sr g h B w w':=⟨⟨a.os,a.tape,a.output⟩,a.size,fun k b _ _=>a.block k b⟩
def sr.ES:sr g h B w (w.setCell ⟨g,i,none⟩ u):=⟨⟨rfl,rfl,rfl⟩,bi,fun k b a _=>((rS.refl g B w).setAt i u).block k b a⟩
def sr.Iq:sr g h B w (w.setCell ⟨h,i,none⟩ u):=⟨⟨rfl,rfl,rfl⟩,bi,fun k b _ a=>((rS.refl h B w).setAt i u).block k b a⟩
def sr.cell(a:sr g h B w w'){p:Addr}(e:p.block<B)(b:p.block≠g)(d:p.block≠h):w'.cell? p=w.cell? p:=rD (w:=w) (a.block _ e b d)
def sr.out(a:sr g h B w w')(b:B'<=B)(d:B'<=g)(e:B'<=h):Below B' w w':=⟨a.env.1,a.env.2.1,a.env.2.2,a.size,fun k i=>a.block k V V V⟩
def sr.mono(a:sr g h B w w')(b:B'<=B):sr g h B' w w':=⟨a.env,a.size,fun k d=>a.block k V⟩
def Mt(w:World)(h:Nat)(a:List Bool):Prop:=∀i b,a[i]? =some b->w.cell? ⟨h,i,none⟩=some (.bool b)/\w.frozen? ⟨h,i,none⟩=false
def Mt.keep{h:Nat}{e:List Bool}(a:Mt w h e)(hb:w'.heap[h]? =w.heap[h]?):Mt w' h e:=fun i b d=>⟨(rD (w:=w) (a:=⟨h,i,none⟩) hb).trans (a i b d).1,(sA (w:=w) (a:=⟨h,i,none⟩) hb).trans (a i b d).2⟩
def Mt.set{h:Nat}{d:List Bool}(a:Mt w h d){j:Nat}(g:j<d.length)(v:Bool):Mt (w.setCell ⟨h,j,none⟩ (.bool v)) h (d.set j v):=by
 intro i u b;rw[yj];rw[yG]at b;split at b;·rename_i e;subst e;(try rw[rv g]at b);injection b with b;subst b;have:=a j d[j] (ry g);exact gF
 ·rename_i e;have:=a i u b;exact fP
def UX(w:World)(g h a:Nat)(A:acN)(n c:Nat)(root:Int)(b:List Bool)(d:acM)(A':acN)(m c':Nat):Prop:=(w.cell? ⟨g,0,none⟩=some (.slice A n c)/\w.cell? ⟨g,1,none⟩=some (.int .i64 root)/\w.cell? ⟨g,2,none⟩=some (.slice (some ⟨h,0,none⟩) n n)/\w.cell? ⟨g,3,none⟩=some (.slice A' m c'))/\(∀j,w.frozen? ⟨g,j,none⟩=false)/\Mt w h b/\b.length=n/\Mem.Own w a A' m c' d/\g<a/\h<a/\g≠h/\a<=w.heap.size
def KR(w:World)(g h a:Nat)(A:acN)(n c:Nat)(root:Int)(d:List Bool)(b:acM):Prop:=∃(A':acN)(m c':Nat),UX w g h a A n c root d b A' m c'
def UX.below{g h d:Nat}{A:acN}{n c:Nat}{root:Int}{i:List Bool}{e:acM}{A':acN}{m c':Nat}(a:UX w g h d A n c root i e A' m c')(hb:Below w.heap.size w w'):UX w' g h d A n c root i e A' m c':=by obtain⟨⟨k,l,o,p⟩,B,y,x,z,q,t,r,C⟩:=a;have b:g<w.heap.size:=V;have v:h<w.heap.size:=V;exact⟨⟨(hb.cell b).trans k,(hb.cell b).trans l,(hb.cell b).trans o,(hb.cell b).trans p⟩,fun j=>(hb.frozen b).trans (B j),y.keep (hb.block h v),x,z.below hb,q,t,r,dE⟩
def KR.below{g h b:Nat}{A:acN}{n c:Nat}{root:Int}{e:List Bool}{d:acM}(a:KR w g h b A n c root e d)(hb:Below w.heap.size w w'):KR w' g h b A n c root e d:=by obtain⟨A',m,c',a⟩:=a;exact⟨A',m,c',a.below hb⟩
def KP(w:World)(g h a:Nat)(A:acN)(n c:Nat)(root:Int)(d:List Bool)(b:acM)(e:Ending)(w':World):Prop:=e=.returned (.tuple #[])/\KR w' g h a A n c root d b/\TF g h w w'/\sr g h a w w'
def UX.store{g h e:Nat}{A:acN}{n c:Nat}{root:Int}{r:List Bool}{t l:acM}{A' i:acN}{m c' k c2:Nat}(a:UX w g h e A n c root r t A' m c'){d:World}(hb:Below e w d)(E:Mem.Own d e i k c2 l):UX (d.setCell ⟨g,3,none⟩ (.slice i k c2)) g h e A n c root r l i k c2:=by
 obtain⟨⟨x,y,z,B⟩,F,D,C,_,b,q,o,L⟩:=a;have G:=(hb.cell (p:=⟨g,0,none⟩) b).trans x;have H:=(hb.cell (p:=⟨g,1,none⟩) b).trans y;have I:=(hb.cell (p:=⟨g,2,none⟩) b).trans z;have K:=(hb.cell (p:=⟨g,3,none⟩) b).trans B;have v:=fun j=>(hb.frozen (p:=⟨g,j,none⟩) b).trans (F j)
 refine⟨⟨bf,bf,bf,bf⟩,fun j=>by have:=v j;go_simp,(D.keep (hb.block h q)).keep (((rS.refl g d.heap.size d).setAt 3 _).block h dE (Cc o)),C,E.setAt b 3 _,b,q,o,by have:=hb.size;simp;omega⟩
def uo(g h i:Nat)(A:acN)(n c:Nat)(root:Int)(l:List Bool)(d s:acM)(w:World)(a:KR w g h i A n c root l d)(N:d.length+s.length<=1000000000):Calls Tryz.prog 70 #[.pointer (some ⟨g,0,none⟩),.string ⟨s.toArray⟩] w (KP w g h i A n c root l (d++s)):=by obtain⟨A',m,c',a⟩:=a;have q:=a;obtain⟨⟨r,t,v,x⟩,k,C,D,e,j,M,K,F⟩:=a;have z:=e.len;have y:m+s.length<=140737488355328:=V;have G:=k 3;have L:g<w.heap.size:=V;clear z r t v k C D;go_enter Tryz.func70,Tryz.ntmps70;go_wp2_with((at_builtin;refine Ft rfl rfl e rfl y F ?_;intro o c2 O E b B;have H:=(b.cell (p:=⟨g,3,none⟩) j).trans x;have I:=(b.frozen (p:=⟨g,3,none⟩) j).trans G));refine tY (tA rfl _ _ _) rfl ?_;exact⟨rfl,⟨o,_,c2,q.store b E⟩,(TF.El e B).trans (TF.ES 3 _),(sr.below b).trans (sr.ES 3 _)⟩
def yT(g h e:Nat)(A:acN)(n c:Nat)(root:Int)(r:List Bool)(b s:acM)(w:World)(a:KR w g h e A n c root r b)(Q:b.length<=1000000000)(I:s.length<=100000000):Calls Tryz.prog 67 #[.pointer (some ⟨g,0,none⟩),.string ⟨s.toArray⟩] w (KP w g h e A n c root r (b++sU s)):=by obtain⟨A',m,c',a⟩:=a;have v:=a;obtain⟨⟨x,y,z,j⟩,o,E,F,i,k,O,M,H⟩:=a;have C:=i.len;have B:m<=1000000000:=V;have q:=o 3;have N:g<w.heap.size:=V;have l:=Oz A' m c' e b s w i B I H;clear C x y z o E F;go_enter Tryz.func67,Tryz.ntmps67;go_wp2_with fail;refine l.mono ?_;rintro e' S ⟨t,R,c2,rfl,G,d,D⟩;clear l;have K:=(d.cell (p:=⟨g,3,none⟩) k).trans j;have L:=(d.frozen (p:=⟨g,3,none⟩) k).trans q;clear j q;go_wp2_with fail;refine tY (tA rfl _ _ _) rfl ?_;exact⟨rfl,⟨t,_,c2,v.store d G⟩,(TF.gro i D).trans (TF.ES 3 _),(sr.below d).trans (sr.ES 3 _)⟩
def uv(i:Nat):acM:=if 0<i then [44]else []
def Dv(g h d:Nat)(A:acN)(n c:Nat)(root:Int)(k:List Bool)(b:acM)(w:World)(a:KR w g h d A n c root k b)(o:b.length+1<=1000000000):Calls Tryz.prog 71 #[.pointer (some ⟨g,0,none⟩),.int .i64 (i:Int)] w (KP w g h d A n c root k (b++uv i)):=by
 by_cases j:0<i;·have p:(0:Int)<(i:Int):=V;have e:uv i=[44]:=rv j;rw[e];have l:=uo g h d A n c root k b [44] w a (by simpa using o);clear e j;go_enter Tryz.func71,Tryz.ntmps71;go_wp2_with fail;refine l.mono ?_;rintro e' q ⟨rfl,m⟩;clear l;go_wp2_with fail;refine tY (tA rfl _ _ _) rfl ?_;exact⟨rfl,m⟩
 ·obtain rfl:i=0:=V;have e:uv 0=[]:=rfl;rw[e,sw];clear e j;go_enter Tryz.func71,Tryz.ntmps71;go_wp2_with fail;refine tY (tA rfl _ _ _) rfl ?_;exact⟨rfl,a,TF.refl _ _ _,sr.refl _ _ _ _⟩
end
