import Derived.Test.YtccjlcadbpinfaaGreatDoorX12
import Derived.Laws.EntriesVeiled
import Derived.RegionTactic
set_option linter.all false
set_option maxRecDepth 100000
set_option maxHeartbeats 16000000
namespace Go.Proofs.YtccjlcadbpinfaaGreatDoor.Tp
open ChangeShapes WideShapes ChangeAt RowKit
open Num Mem Can
def WR(w:World)(lo d:Nat)(cs:List Value)(x:Nd):Prop:=∃(t:aft)(m c1:Nat)(v:aft)(g c2:Nat)(y:aft)(p B:Nat)(z:aft)(r C:Nat)(q:Nat)(j:List (List Value)),cs=(nL x t m c1 v g c2 y p B z r C)/\Row w (fun b=>(lo<=b/\b<d)/\b≠q) 1 t m (uL x.aliases)/\Row w (fun b=>(lo<=b/\b<d)/\b≠q) 1 y p (uL x.symbols)/\Row w (fun b=>(lo<=b/\b<d)/\b≠q) 1 z r (xZ x.rX)/\(m<=c1/\g<=c2/\p<=B/\r<=C)/\(m<=100000000/\g<=100000000/\p<=100000000/\r<=100000000)/\(lo<=q/\q<=d)/\(0<g->v=some ⟨q,0,none⟩/\q<d/\At w q 9 j)/\(j.length=g/\x.fields.length=g)/\∀(i:Nat)(h:i<j.length)(D:i<x.fields.length),DB w (fun b=>(lo<=b/\b<d)/\b≠q) j[i] x.fields[i]
def WR.keep{w w':World}{lo m:Nat}{cs:List Value}{x:Nd}(h:WR w lo m cs x)(r:∀b,lo<=b->b<m->w'.heap[b]? =w.heap[b]?):WR w' lo m cs x:=by
 obtain⟨y,O,c1,z,R,c2,B,T,D,C,U,E,q,F,d,W,X,Y,I,M,v,j,L,K⟩:=h;have g:∀p:Addr,((lo<=p.block/\p.block<m)/\p.block≠q)->w'.cell? p=w.cell? p:=fun p t=>rK (w:=w) (r _ t.1.1 t.1.2)
 exact⟨y,O,c1,z,R,c2,B,T,D,C,U,E,q,F,d,W.keep g ug,X.keep g ug,Y.keep g ug,I,M,v,fun d=>⟨(j d).1,(j d).2.1,(j d).2.2.keep (r q v.1 (j d).2.1)⟩,L,fun i h G=>(K i h G).keep g ug⟩
def WR.isN{w:World}{lo d:Nat}{cs:List Value}{x:Nd}(h:WR w lo d cs x):Lw w (fun b=>lo<=b/\b<d) cs x:=by
 obtain⟨U,a1,c1,W,j,c2,X,a2,Z,Y,a3,a0,q,m,rfl,O,R,T,⟨z,B,C,D⟩,⟨G,I,K,L⟩,M,E,g,F⟩:=h;refine .mk (O.keep (fun _ _=>rfl) (fun b hb=>hb.1)) ⟨m,?_,V,fun i h p=>(F i h p).keep (fun _ _=>rfl) (fun b hb=>hb.1)⟩ (R.keep (fun _ _=>rfl) (fun b hb=>hb.1)) (T.keep (fun _ _=>rfl) (fun b hb=>hb.1)) z B C D G I K L;by_cases r:0<j;·obtain⟨t,v,y⟩:=E r;rw[t];exact y.row g.1 _ ⟨M.1,v⟩
 ·obtain rfl:j=0:=V;rw[rT g.1];exact Row.nil _ _ _ _
def CpS(w:World)(H:Nat)(A:aft)(n c:Nat)(S:List Nd):Prop:=∃(b:Nat)(d:List (List Value))(h:Nat->Nat),(d.length=n/\S.length=n/\n<=c)/\(0<n->A=some ⟨b,0,none⟩/\At w b 10 d)/\(H<=b/\b<h 0)/\(∀i,i<n->h i<=h (i+1))/\h n<=w.heap.size/\∀(i:Nat)(j:i<d.length)(g:i<S.length),WR w (h i) (h (i+1)) d[i] S[i]
def Qi{h:Nat->Nat}{n:Nat}(b:∀i,i<n->h i<=h (i+1)):∀(d i:Nat),i+d<=n->h i<=h (i+d)
 |0,i,_=>rZ _
 |d+1,i,g=>sn (Qi b d i V) (b (i+d) V)
def AY{h:Nat->Nat}{n:Nat}(b:∀i,i<n->h i<=h (i+1)){i j:Nat}(d:i<=j)(g:j<=n):h i<=h j:=by have:=Qi b (j-i) i V;rwa[show i+(j-i)=j from V]at this
def CpS.Ft{w:World}{H:Nat}{A:aft}{n c:Nat}{S:List Nd}(v:CpS w H A n c S):tJ w (fun b=>H<=b/\b<w.heap.size) A n S:=by
 obtain⟨z,j,h,⟨g,D,_⟩,p,q,d,E,r⟩:=v;refine⟨j,?_,V,fun i x y=>(r i x y).isN.keep (fun _ _=>rfl) (fun b hb=> ?_)⟩
 ·by_cases m:0<n;·obtain⟨e,t⟩:=p m;rw[e];exact t.row g _ ⟨q.1,by have:=AY d (sb n) (rZ n);omega⟩
  ·obtain rfl:n=0:=V;rw[rT g];exact Row.nil _ _ _ _
 ·have B:=AY d (sb i) (show i<=n from V);have C:=AY d (show i+1<=n from V) (rZ n);exact⟨V,V⟩
structure Ny{α:Type}(Is:World->(Nat->Prop)->List Value->α->Prop)(k:Nat)(w:World)(H G:Nat)(j:Nat)(EL:List (List Value))(items:List α)(uQ:List (List Value)):Prop where
 at_:At w G k uQ
 len:uQ.length=EL.length
 done:∀(i:Nat)(h:i<uQ.length)(h':i<items.length),i<j->Is w (fun b=>(H<=b/\b<w.heap.size)/\b≠G) uQ[i] items[i]
 rest:∀i,j<=i->uQ[i]? =EL[i]?
def Ny.keep{α:Type}{Is:World->(Nat->Prop)->List Value->α->Prop}{k:Nat}(v:Way Is k){w w':World}{H d j:Nat}{EL g:List (List Value)}{items:List α}(h:Ny Is k w H d j EL items g)(B:w.heap.size<=w'.heap.size)(hb:∀b,H<=b->b<w.heap.size->w'.heap[b]? =w.heap[b]?)(r:d<w.heap.size)(t:H<=d):Ny Is k w' H d j EL items g:=⟨h.at_.keep (hb d t r),h.len,fun i x y z=>v.keep (h.done i x y z) (fun q p=>rK (w:=w) (hb _ p.1.1 p.1.2)) (fun b m=>⟨⟨m.1.1,V⟩,m.2⟩),h.rest⟩
def Ny.step{α:Type}{Is:World->(Nat->Prop)->List Value->α->Prop}{k:Nat}(t:Way Is k){w w':World}{H d j:Nat}{EL g:List (List Value)}{items:List α}(h:Ny Is k w H d j EL items g)(B:w.heap.size<=w'.heap.size)(hb:∀b,H<=b->b<w.heap.size->b≠d->w'.heap[b]? =w.heap[b]?){cs:List Value}(v:At w' d k (g.set j cs))(z:j<g.length){x:α}(hx:items[j]? =some x)(y:Is w' (fun b=>(H<=b/\b<w'.heap.size)/\b≠d) cs x):Ny Is k w' H d (j+1) EL items (g.set j cs):=by
 refine⟨v,jM,?_,?_⟩
 ·intro i r YT hij;rw[uB]at r;rw[Tl];split;·rename_i e;subst e;have:items[j]=x:=ld;rw[this];exact y
  ·rename_i e;exact t.keep (h.done i r YT V) (fun q m=>rK (w:=w) (hb _ m.1.1 m.1.2 m.2)) (fun b p=>⟨⟨p.1.1,V⟩,p.2⟩)
 ·exact oI
def Qe{w:World}{r:Nat}{A:aft}{n c:Nat}{root:Int}(b:w.cell? (rN r 0)=some (.slice A n c))(d:w.cell? (rN r 1)=some (.int .i64 root)):(loadVar 32 ⟨r,0,none⟩).run Tryz.prog w=.ok (.agg #[.slice A n c,.int .i64 root]) w:=bi
def aau{w:World}{r:Nat}{A:aft}{n c:Nat}{root:Int}{b:Func}{p:Tmp}(h:b.results= #[.cell p 32]){d:Array Value}(j:d.getD p undef=sg r)(g:w.cell? (rN r 0)=some (.slice A n c))(i:w.cell? (rN r 1)=some (.int .i64 root)):(results b d).run Tryz.prog w=.ok (.agg #[.slice A n c,.int .i64 root]) w:=by rw[zp h,j];simp only[asAddr,vR,ua];exact Qe g i
def CpI(w b:World)(n:Nat)(root:Int)(h:List (List Value))(s:Value):Prop:=∃(o:Nat)(g:aft)(c1:Nat),s=sg o/\b.cell? (rN o 0)=some (.slice g n c1)/\b.cell? (rN o 1)=some (.int .i64 root)/\(w.heap.size<=o/\o<b.heap.size)/\n<=c1/\(0<n->∃d,g=some ⟨d,0,none⟩/\(w.heap.size<=d/\d<b.heap.size)/\d≠o/\At b d 10 h)/\afv w b
structure CpO(w:World)(Hc G i:Nat)(EL:List (List Value))(S:List Nd)(uQ:List (List Value))(h:Nat->Nat):Prop where
 at_:At w G 10 uQ
 len:uQ.length=EL.length
 low:h 0=Hc
 mono:∀k,k<i->h k<=h (k+1)
 top:h i<=w.heap.size
 done:∀(k:Nat)(hk:k<uQ.length)(h':k<S.length),k<i->WR w (h k) (h (k+1)) uQ[k] S[k]
 rest:∀k,i<=k->uQ[k]? =EL[k]?
def CpO.step{w w':World}{g p i:Nat}{EL j:List (List Value)}{S:List Nd}{h:Nat->Nat}(d:CpO w g p i EL S j h)(D:w.heap.size<=w'.heap.size)(hb:∀b,g<=b->b<w.heap.size->w'.heap[b]? =w.heap[b]?){cs:List Value}(v:At w' p 10 (j.set i cs))(C:i<j.length){x:Nd}(t:S[i]? =some x)(y:WR w' (h i) w'.heap.size cs x):CpO w' g p (i+1) EL S (j.set i cs) (fun k=>if k<=i then h k else w'.heap.size):=by
 refine⟨v,by rw[uB];exact d.len,(by show(if 0<=i then h 0 else w'.heap.size)=g;rw[rG (sb _)];exact d.low),?_,(by show(if i+1<=i then h (i+1)else w'.heap.size)<=w'.heap.size;rw[rB V];exact jF),?_,?_⟩
 ·intro k m;by_cases r:k<i;·rw[rG V,rG V];exact d.mono k r
  ·obtain rfl:k=i:=V;rw[rG V,rB V];have:=d.top;omega
 ·intro k m q r;rw[uB]at m;rw[Tl];by_cases e:i=k
  ·subst e;have:S[i]=x:=by rw[rD q]at t;injection t
   rw[this,rG rV,rB V,rG rfl];exact y
  ·rw[rG V,rG V,rB e];refine(d.done k m q V).keep (fun b z B=>hb b ?_ ?_);·have:=AY d.mono (sb k) V;have:=d.low;omega
   ·have:=AY d.mono (show k+1<=i from V) (rZ i);have:=d.top;omega
 ·intro k m;rw[uG,rB V];exact d.rest k V
structure TF(g h:Nat)(w w':World):Prop where
 size:w.heap.size<=w'.heap.size
 block:∀k,k<w.heap.size->k≠g->k≠h->(∀cur fz,w.heap[k]?≠some (.cells cur 5 fz))->w'.heap[k]? =w.heap[k]?
section
variable{g h b n c:Nat}{w w' q:World}(i:Nat)(u:Value)
def TF.refl(g h:Nat)(w:World):TF g h w w:=⟨rZ _,fun _ _ _ _ _=>rfl⟩
def TF.trans(a:TF g h w w')(b:TF g h w' q):TF g h w q:=⟨sn a.size b.size,fun j m d i p=>by have e:=a.block j m d i p;rw[b.block j (rS m a.size) d i (by rw[e];exact p),e]⟩
def TF.below(a:afv w w'):TF g h w w':=⟨a.size,fun k b _ _ _=>a.block k b⟩
def TF.Fu:TF g h w (w.setCell ⟨g,i,none⟩ u):=⟨bA,fun k d b _ _=>((sa.refl g w.heap.size w).setAt i u).block k d b⟩
def TF.IW:TF g h w (w.setCell ⟨h,i,none⟩ u):=⟨bA,fun k d _ b _=>((sa.refl h w.heap.size w).setAt i u).block k d b⟩
def Sa{i n c:Nat}{A:aft}{xs:afs}(m:Mem.Own w i A n c xs){k:Nat}(d:A.map (·.block)=some k):∃h fz,w.heap[k]? =some (.cells h 5 fz):=by
 rcases m.2 with⟨b,_⟩|⟨g,cap,h,b,_,j,_⟩;·injection b with b;rw[b]at d;simp at d
 ·injection b with b;rw[b]at d;simp only[xm,sq]at d;subst d;exact⟨_,_,j⟩
def TF.gro{A A':aft}{xs:afs}{w w':World}(ho:Mem.Own w b A n c xs)(a:Bu A w A' w'):TF g h w w':=⟨a.size,fun k d _ _ hn=>a.block k d fun he=>kO⟩
def TF.DZ{A:aft}{xs:afs}{w w':World}(ho:Mem.Own w b A n c xs)(a:Lu A w w'):TF g h w w':=⟨a.1,fun k d _ _ hn=>a.2 k d fun he=>kO⟩
end
structure sN(g h B:Nat)(w w':World):Prop where
 env:w'.os=w.os/\w'.tape=w.tape/\w'.output=w.output
 size:w.heap.size<=w'.heap.size
 block:∀k,k<B->k≠g->k≠h->w'.heap[k]? =w.heap[k]?
section
variable{g h B B':Nat}{w w' m:World}(i:Nat)(u:Value)
def sN.refl(g h B:Nat)(w:World):sN g h B w w:=⟨⟨rfl,rfl,rfl⟩,rZ _,fun _ _ _ _=>rfl⟩
def sN.trans(a:sN g h B w w')(b:sN g h B w' m):sN g h B w m:=⟨⟨b.env.1.trans a.env.1,b.env.2.1.trans a.env.2.1,b.env.2.2.trans a.env.2.2⟩,sn a.size b.size,fun k j d i=>(b.block k j d i).trans (a.block k j d i)⟩
def sN.below(a:Below B w w'):sN g h B w w':=⟨⟨a.os,a.tape,a.output⟩,a.size,fun k b _ _=>a.block k b⟩
def sN.Fu:sN g h B w (w.setCell ⟨g,i,none⟩ u):=⟨⟨rfl,rfl,rfl⟩,bA,fun k d b _=>((sa.refl g B w).setAt i u).block k d b⟩
def sN.IW:sN g h B w (w.setCell ⟨h,i,none⟩ u):=⟨⟨rfl,rfl,rfl⟩,bA,fun k d _ b=>((sa.refl h B w).setAt i u).block k d b⟩
def sN.cell(a:sN g h B w w'){p:Addr}(i:p.block<B)(b:p.block≠g)(d:p.block≠h):w'.cell? p=w.cell? p:=rK (w:=w) (a.block _ i b d)
def sN.out(a:sN g h B w w')(b:B'<=B)(d:B'<=g)(i:B'<=h):Below B' w w':=⟨a.env.1,a.env.2.1,a.env.2.2,a.size,fun k j=>a.block k V V V⟩
def sN.mono(a:sN g h B w w')(b:B'<=B):sN g h B' w w':=⟨a.env,a.size,fun k d=>a.block k V⟩
def Mt(w:World)(h:Nat)(d:List Bool):Prop:=∀i b,d[i]? =some b->w.cell? (rN h i)=some (.bool b)/\w.frozen? (rN h i)=false
def Mt.keep{h:Nat}{g:List Bool}(a:Mt w h g)(hb:w'.heap[h]? =w.heap[h]?):Mt w' h g:=fun i b d=>⟨(rK (w:=w) (a:=rN h i) hb).trans (a i b d).1,(sP (w:=w) (a:=rN h i) hb).trans (a i b d).2⟩
def Mt.set{h:Nat}{d:List Bool}(a:Mt w h d){j:Nat}(g:j<d.length)(v:Bool):Mt (w.setCell ⟨h,j,none⟩ (.bool v)) h (d.set j v):=by
 intro i u b;rw[vH];rw[uG]at b;split at b;·rename_i e;subst e;(try rw[rG g]at b);injection b with b;subst b;have:=a j d[j] (rD g);exact ij
 ·rename_i e;have:=a i u b;exact gt
def Wx(w:World)(g h b:Nat)(A:aft)(n c:Nat)(root:Int)(d:List Bool)(i:afs)(A':aft)(m c':Nat):Prop:=(w.cell? (rN g 0)=some (.slice A n c)/\w.cell? (rN g 1)=some (.int .i64 root)/\w.cell? (rN g 2)=some (.slice (some ⟨h,0,none⟩) n n)/\w.cell? (rN g 3)=some (.slice A' m c'))/\(∀j,w.frozen? (rN g j)=false)/\Mt w h d/\d.length=n/\Mem.Own w b A' m c' i/\g<b/\h<b/\g≠h/\b<=w.heap.size
def LH(w:World)(g h b:Nat)(A:aft)(n c:Nat)(root:Int)(i:List Bool)(d:afs):Prop:=∃(A':aft)(m c':Nat),Wx w g h b A n c root i d A' m c'
def Wx.below{g h d:Nat}{A:aft}{n c:Nat}{root:Int}{p:List Bool}{i:afs}{A':aft}{m c':Nat}(a:Wx w g h d A n c root p i A' m c')(hb:afv w w'):Wx w' g h d A n c root p i A' m c':=by obtain⟨⟨q,r,t,v⟩,F,D,C,E,x,z,y,G⟩:=a;have b:g<w.heap.size:=V;have B:h<w.heap.size:=V;exact⟨⟨(hb.cell b).trans q,(hb.cell b).trans r,(hb.cell b).trans t,(hb.cell b).trans v⟩,fun j=>(hb.frozen b).trans (F j),D.keep (hb.block h B),C,E.below hb,x,z,y,eT⟩
def LH.below{g h b:Nat}{A:aft}{n c:Nat}{root:Int}{i:List Bool}{d:afs}(a:LH w g h b A n c root i d)(hb:afv w w'):LH w' g h b A n c root i d:=by obtain⟨A',m,c',a⟩:=a;exact⟨A',m,c',a.below hb⟩
def LF(w:World)(g h b:Nat)(A:aft)(n c:Nat)(root:Int)(i:List Bool)(d:afs)(e:Ending)(w':World):Prop:=e=.returned (.tuple #[])/\LH w' g h b A n c root i d/\TF g h w w'/\sN g h b w w'
def Wx.store{g h i:Nat}{A:aft}{n c:Nat}{root:Int}{y:List Bool}{z t:afs}{A' q:aft}{m c' r c2:Nat}(a:Wx w g h i A n c root y z A' m c'){d:World}(hb:Below i w d)(K:Mem.Own d i q r c2 t):Wx (d.setCell ⟨g,3,none⟩ (.slice q r c2)) g h i A n c root y t q r c2:=by
 obtain⟨⟨C,D,E,F⟩,L,I,G,_,b,x,v,U⟩:=a;have M:=hb.cl C b;have O:=hb.cl D b;have R:=hb.cl E b;have T:=hb.cl F b;have B:=fun j=>(hb.frozen (p:=rN g j) b).trans (L j)
 refine⟨⟨bi,bi,bi,bi⟩,fun j=>by have:=B j;go_simp,(I.keep (hb.block h x)).keep (((sa.refl g d.heap.size d).setAt 3 _).block h eT (Ak v)),G,K.setAt b 3 _,b,x,v,by have:=hb.size;simp;omega⟩
def uD(g h j:Nat)(A:aft)(n c:Nat)(root:Int)(r:List Bool)(d s:afs)(w:World)(a:LH w g h j A n c root r d)(U:d.length+s.length<=1000000000):Calls Tryz.prog 70 #[sg g,.string ⟨s.toArray⟩] w (LF w g h j A n c root r (d++s)):=by obtain⟨A',m,c',a⟩:=a;have v:=a;obtain⟨⟨I,K,L,x⟩,D,W,X,i,q,T,O,C⟩:=a;have M:=i.len;have y:m+s.length<=140737488355328:=V;have E:=D 3;have R:g<w.heap.size:=V;go_enter Tryz.func70,Tryz.ntmps70;go_wp2_with((at_builtin;refine F5 rfl rfl i rfl y C ?_;intro t c2 Y B b z;have F:=(b.cell (p:=rN g 3) q).trans x;have G:=(b.frozen (p:=rN g 3) q).trans E));refine uv (tR rfl _ _ _) rfl ?_;exact⟨rfl,⟨t,_,c2,v.store b B⟩,(TF.DZ i z).trans (TF.Fu 3 _),(sN.below b).trans (sN.Fu 3 _)⟩
def zk(g h i:Nat)(A:aft)(n c:Nat)(root:Int)(r:List Bool)(b s:afs)(w:World)(a:LH w g h i A n c root r b)(X:b.length<=1000000000)(E:s.length<=100000000):Calls Tryz.prog 67 #[sg g,.string ⟨s.toArray⟩] w (LF w g h i A n c root r (b++sB s)):=by obtain⟨A',m,c',a⟩:=a;have v:=a;obtain⟨⟨L,M,O,x⟩,F,Y,Z,j,q,W,T,D⟩:=a;have R:=j.len;have y:m<=1000000000:=V;have G:=F 3;have U:g<w.heap.size:=V;have C:=PF A' m c' i b s w j y E D;go_enter Tryz.func67,Tryz.ntmps67;go_wp2_with fail;refine C.mono ?_;rintro e' a1 ⟨t,a0,c2,rfl,B,d,z⟩;have I:=d.cl x q;have K:=(d.frozen (p:=rN g 3) q).trans G;go_wp2_with fail;refine uv (tR rfl _ _ _) rfl ?_;exact⟨rfl,⟨t,_,c2,v.store d B⟩,(TF.gro j z).trans (TF.Fu 3 _),(sN.below d).trans (sN.Fu 3 _)⟩
def tV(i:Nat):afs:=if 0<i then [44]else []
def DN(g h d:Nat)(A:aft)(n c:Nat)(root:Int)(j:List Bool)(b:afs)(w:World)(a:LH w g h d A n c root j b)(q:b.length+1<=1000000000):Calls Tryz.prog 71 #[sg g,.int .i64 (i:Int)] w (LF w g h d A n c root j (b++tV i)):=by
 by_cases p:0<i
 ·have t:(0:Int)<(i:Int):=V;have e:tV i=[44]:=rG p;rw[e];have r:=uD g h d A n c root j b [44] w a (by simpa using q);go_enter Tryz.func71,Tryz.ntmps71;go_wp2_with fail;refine sG r fun v m=> ?_
  go_wp2_with fail;refine uv (tR rfl _ _ _) rfl ?_;exact⟨rfl,m⟩
 ·obtain rfl:i=0:=V;have e:tV 0=[]:=rfl;rw[e,sX];go_enter Tryz.func71,Tryz.ntmps71;go_wp2_with fail;refine uv (tR rfl _ _ _) rfl ?_;exact⟨rfl,a,TF.refl _ _ _,sN.refl _ _ _ _⟩
end
inductive vD(P:Int->Nat->Nat->Prop):List Int->Nat->Nat->Prop
 |nil (nx:Nat):vD P [] nx nx
 |cons {k:Int} {ks:List Int} {nx Ta R:Nat} (h:P k nx Ta) (hr:vD P ks Ta R):vD P (k::ks) nx R
def Ma{S:List Nd}{P:Int->Nat->Nat->Prop}(d:∀(k:Int)(nx:Nat),0<=k->k<(nx:Int)->(match S[k.toNat]? with|some y=>sr y.kind|none=>false)=true->P k nx nx)(wk:Nat->Option Nat)(hwk:∀a b,wk a=some b->P (a:Int) a b):∀(ks:List Int)(nx R:Nat),AV S wk ks nx=some R->vD P ks nx R:=by
 intro ks;induction ks with
 |nil=>exact kq
 |cons k ks ih=>
  intro nx R h;simp only[AV]at h;split at h;·exact fN
  ·rename_i hk;split at h;·cases h
   ·rename_i j;split at h
    ·rename_i y i;split at h;·rename_i g;exact .cons (d k nx V V (by rw[i];exact g)) (ih _ _ h)
     ·cases h
    ·simp at h
def vD.imp{P Q:Int->Nat->Nat->Prop}(g:∀k a b,P k a b->Q k a b){ks:List Int}{d R:Nat}(h:vD P ks d R):vD Q ks d R:=by
 induction h with
 |nil=>exact .nil _
 |cons h _ ih=>exact .cons (g _ _ _ h) ih
abbrev CS:=afs×List Bool
def wK:afs:=[123,34,110,97,109,101,34,58]
def xR:afs:=[44,34,116,121,112,101,34,58]
def zv:afs:=[44,34,102,105,101,108,100,115,34,58,91]
def yT:afs:=[44,34,115,121,109,98,111,108,115,34,58,91]
def FQ:afs:=[44,34,115,105,122,101,34,58]
def zn:afs:=[123,34,116,121,112,101,34,58,34,97,114,114,97,121,34,44,34,105,116,101,109,115,34,58]
def Fi:afs:=[123,34,116,121,112,101,34,58,34,109,97,112,34,44,34,118,97,108,117,101,115,34,58]
def T8(nd:Nat->CS->CS)(i:Nat)(f:Fd)(st:CS):CS:=((nd f.type.toNat (st.1++tV i++wK++sB f.name++xR,st.2)).1++[125],(nd f.type.toNat (st.1++tV i++wK++sB f.name++xR,st.2)).2)
def DL(nd:Nat->CS->CS):Nat->List Fd->CS->CS
 |_,[],st=>st
 |i,f::r,st=>DL nd (i+1) r (T8 nd i f st)
def Ge:Nat->List afs->afs->afs
 |_,[],b=>b
 |i,s::r,b=>Ge (i+1) r (b++tV i++sB s)
def Du(nd:Nat->CS->CS):Nat->List Int->CS->CS
 |_,[],st=>st
 |i,k::r,st=>Du nd (i+1) r (nd k.toNat (st.1++tV i,st.2))
def E7(x:Nd)(b:afs):afs:=b++wK++sB x.name++xR++sB (tI x.kind)
def W6(nd:Nat->CS->CS)(x:Nd)(st:CS):CS:=if x.kind=9 then((DL nd 0 x.fields (E7 x st.1++zv,st.2)).1++[93]++[125],(DL nd 0 x.fields (E7 x st.1++zv,st.2)).2)else if x.kind=10 then(Ge 0 x.symbols (E7 x st.1++yT)++[93]++[125],st.2)else(E7 x st.1++FQ++zZ x.size++[125],st.2)
def CE(S:List Nd):Nat->Nat->CS->CS
 |0,_,st=>st
 |f+1,a,st=>
 match S[a]? with
 |none=>st
 |some x=>if x.kind<=8 then(st.1++sB (tI x.kind),st.2)else if sr x.kind=true then(if st.2[a]? =some true then(st.1++sB x.name,st.2)else W6 (CE S f) x (st.1,st.2.set a true))else if x.kind=13 then((Du (CE S f) 0 x.rX (st.1++[91],st.2)).1++[93],(Du (CE S f) 0 x.rX (st.1++[91],st.2)).2)else if x.kind=11 then((CE S f x.items.toNat (st.1++zn,st.2)).1++[125],(CE S f x.items.toNat (st.1++zn,st.2)).2)else((CE S f x.items.toNat (st.1++Fi,st.2)).1++[125],(CE S f x.items.toNat (st.1++Fi,st.2)).2)
def vN(s:afs):(sB s).length<=2+6*s.length:=by have:=H9 s;omega
def Al(i:Nat):(tV i).length<=1:=by unfold tV;split<;>simp
def MG(m:Int):(zZ m).length<=22:=MH m
def ED(k:Int):(tI k).length<=8:=by
 unfold tI;split;·simp
 ·have:∀i,(ux.getD i []).length<=8:=by
   intro i;rcases tE i 15 with h|h
   ·match i,h with
    |0,_|1,_|2,_|3,_|4,_|5,_|6,_|7,_|8,_|9,_|10,_|11,_|12,_|13,_|14,_=>decide
   ·simp[List.getD,tu (show ux.length<=i by simpa[ux]using h)]
  exact this _
def zm{l:afs}(h:vL l=true):l.length<=100:=by unfold vL at h;simp at h;exact h.1
def MX{l:afs}(h:xj l=true):l.length<=100:=by unfold xj at h;simp at h;exact h.1
def Jf{p:afs->Bool}{l:List afs}(h:CX p l=true):∀s∈l,p s=true:=by intro s d;obtain⟨i,b⟩:=CA d;exact(Ei (p:=p) (all:=l) l 0 rfl h i s b).1
def Cn{S:List Nd}{x:Nd}(h:vM S x=true)(g:x.kind=9):x.fields.length<=40/\∀f∈x.fields,f.name.length<=100:=by have b:=(CU h g).1;unfold yO at b;simp only[rO,sd]at b;exact⟨b.2.1,fun f d=>MX (Jf b.2.2 f.name (ti.2 ⟨f,d,rfl⟩))⟩
def DM{S:List Nd}{x:Nd}(h:vM S x=true)(d:x.kind=10):x.symbols.length<=40/\∀s∈x.symbols,s.length<=100:=by have b:=(Ja h d).1;unfold Mf at b;simp only[rO,sd]at b;exact⟨b.2.2.1,fun s g=>MX (Jf b.2.2.2 s g)⟩
def Dc{S:List Nd}{x:Nd}(h:vM S x=true)(d:x.kind=13):x.rX.length<=10:=by have b:=(Ha h d).1;unfold Db at b;simp only[rO,sd]at b;exact b.1.2
def CaL(S:List Nd)(nd:Nat->CS->CS)(k:Int)(d b:Nat):Prop:=d<=b/\(0<=k/\k<(b:Int))/\∀st:CS,Met S d st.2->Met S b (nd k.toNat st).2/\(nd k.toNat st).1.length+60000*d<=st.1.length+700+60000*b
def Ua{S:List Nd}{nd:Nat->CS->CS}{ks:List Int}{b R:Nat}(h:vD (CaL S nd) ks b R):b<=R/\∀(i:Nat)(st:CS),Met S b st.2->Met S R (Du nd i ks st).2/\(Du nd i ks st).1.length+60000*b<=st.1.length+701*ks.length+60000*R:=by
 induction h with
 |nil b=>exact⟨rZ _,fun i st d=>⟨d,by simp[Du]⟩⟩
 |cons h z q=>obtain⟨v,x,m⟩:=h;obtain⟨B,p⟩:=q;refine⟨V,fun i st d=> ?_⟩;obtain⟨j,t⟩:=m (st.1++tV i,st.2) d;obtain⟨g,r⟩:=p (i+1) _ j;refine⟨g,?_⟩;have y:=Al i;simp only[Du,rP,rL]at*;omega
def L5{S:List Nd}{nd:Nat->CS->CS}:∀(fs:List Fd)(b R:Nat),vD (CaL S nd) (fs.map (·.type)) b R->(∀f∈fs,f.name.length<=100)->b<=R/\∀(i:Nat)(st:CS),Met S b st.2->Met S R (DL nd i fs st).2/\(DL nd i fs st).1.length+60000*b<=st.1.length+1320*fs.length+60000*R
 | [],b,R,h,d=>by cases h;exact⟨rZ _,fun i st j=>⟨j,by simp[DL]⟩⟩
 |f::fs,b,R,h,d=>
 by
  cases h with
  |cons h t=>
   obtain⟨B,C,q⟩:=h;obtain⟨G,v⟩:=L5 fs _ R t (fun g r=>d g (by simp[r]));refine⟨V,fun i st j=> ?_⟩;obtain⟨p,z⟩:=q (st.1++tV i++wK++sB f.name++xR,st.2) j;obtain⟨m,x⟩:=v (i+1) (T8 nd i f st) p;refine⟨m,?_⟩;have D:=Al i;have F:=vN f.name;have E:=d f bA;have l1:wK.length=8:=rfl;have I:xR.length=8:=rfl;have y:(T8 nd i f st).1.length=(nd f.type.toNat (st.1++tV i++wK++sB f.name++xR,st.2)).1.length+1:=by simp[T8]
   simp only[DL,rP,rL]at*;omega
def L6:∀(l:List afs)(i:Nat)(b:afs),(∀s∈l,s.length<=100)->(Ge i l b).length<=b.length+603*l.length
 | [],i,b,_=>by simp[Ge]
 |s::r,i,b,h=>by have p:=L6 r (i+1) (b++tV i++sB s) (fun t d=>h t (by simp[d]));have g:=Al i;have m:=vN s;have j:=h s bA;simp only[Ge,rP,rL]at*;omega
def PS(x:Nd)(b:afs)(h:x.name.length<=100):(E7 x b).length<=b.length+670:=by have d:=vN x.name;have g:=vN (tI x.kind);have i:=ED x.kind;have l1:wK.length=8:=rfl;have j:xR.length=8:=rfl;unfold E7;exact dY
structure QM(w:World)(g h base:Nat)(A:aft)(n:Nat)(S:List Nd)(X:afu):Prop where
 row:tJ w X A n S
 Dj:∀b,X b->b<base/\b≠g/\b≠h
 zL:uI w
 two:2<=g/\2<=h/\2<=base
 le:n<=100000000
section
variable(S:List Nd)(F a R:Nat){w w':World}{g h d k B r:Nat}{f:Fd}{x:Nd}{P:Int->Nat->Nat->Prop}
def uI.Cm(a:uI w)(b:sN g h d w w')(t:2<=g/\2<=h/\2<=d):uI w':=by obtain⟨⟨m,q⟩,r⟩:=a;exact⟨⟨m,(b.cell (p:=rN 1 0) bl bl bl).trans q⟩,fun i l j=>(b.cell (p:=rN 0 i) bl bl bl).trans (r i l j)⟩
def QM.Cm{A:aft}{n:Nat}{S:List Nd}{X:afu}(a:QM w g h d A n S X)(b:sN g h d w w'):QM w' g h d A n S X:=⟨a.row.keep (fun q i=>b.cell (a.Dj _ i).1 (a.Dj _ i).2.1 (a.Dj _ i).2.2) ug,a.Dj,a.zL.Cm b a.two,a.two,a.le⟩
def PD(w:World)(k:Nat):Prop:=k<w.heap.size/\∀b fz,w.heap[k]?≠some (.cells b 5 fz)
def PD.tf(a:PD w k)(b:TF g h w w')(d:k≠g)(i:k≠h):PD w' k/\w'.heap[k]? =w.heap[k]?:=by have e:=b.block k a.1 d i a.2;exact kT
def PD.below(a:PD w k)(b:Below B w w')(d:k<B):PD w' k/\w'.heap[k]? =w.heap[k]?:=by have e:=b.block k d;exact kT
def PD.new(w:World)(cs:Array Value)(t:TypeId)(b:t≠5):PD (w.alloc (.cells cs t)) w.heap.size:=by refine⟨bA,fun d fz e=> ?_⟩;rw[Ky]at e;injection e with e;injection e with _ e _;exact b e
def WV(w:World)(r:Nat)(x:Nd)(b:aft)(m c1:Nat)(d:aft)(p c2:Nat)(g:aft)(q i:Nat)(h:aft)(t j:Nat):Prop:=wm w r x b m c1 d p c2 g q i h t j/\PD w r
def WV.tf{d:aft}{y c1:Nat}{i:aft}{z c2:Nat}{m:aft}{B q:Nat}{p:aft}{C t:Nat}(a:WV w r x d y c1 i z c2 m B q p C t)(b:TF g h w w')(E:r≠g)(F:r≠h):WV w' r x d y c1 i z c2 m B q p C t:=by obtain⟨D,v⟩:=a.2.tf b E F;exact⟨a.1.keep (fun j=>rK (w:=w) (a:=rN r j) v) (fun j=>sP (w:=w) (a:=rN r j) v),D⟩
def FdB(w:World)(r:Nat)(f:Fd)(b:aft)(p h:Nat)(k i:Int)(t:ByteArray)(B:aft)(m d:Nat)(B':aft)(j g:Nat):Prop:=Cy w r f b p h k i t B m d B' j g/\PD w r
def FdB.tf{p:aft}{y v:Nat}{k i:Int}{t:ByteArray}{B:aft}{m d:Nat}{B':aft}{x q:Nat}(a:FdB w r f p y v k i t B m d B' x q)(b:TF g h w w')(D:r≠g)(E:r≠h):FdB w' r f p y v k i t B m d B' x q:=by obtain⟨z,C⟩:=a.2.tf b D E;exact⟨a.1.keep (fun j=>rK (w:=w) (a:=rN r j) C),z⟩
def vD.le(g:∀k a b,P k a b->a<=b){ks:List Int}{d R:Nat}(h:vD P ks d R):d<=R:=by
 induction h with
 |nil=>exact jF
 |cons h _ ih=>exact sn (g _ _ _ h) ih
def WQ(S:List Nd)(F:Nat)(k:Int)(d i:Nat):Prop:=CaL S (CE S F) k d i/\∀st:CS,Met S d st.2->st.1.length+60000*i<=580000000+60000*d->∀(w:World)(g h b:Nat)(A:aft)(n c:Nat)(root:Int)(X:afu),QM w g h b A n S X->LH w g h b A n c root st.2 st.1->Calls Tryz.prog 32 #[sg g,.int .i64 k] w (LF w g h b A n c root (CE S F k.toNat st).2 (CE S F k.toNat st).1)
def Om(x:Nd)(hw:S[a]? =some x)(cS:vM S x=true)(dx:sr x.kind=true)(eg:x.kind=9->vD (WQ S F) (x.fields.map (·.type)) (a+1) R)(hh:a+1<=R)(st:CS)(gc:Met S (a+1) st.2)(hn:st.1.length+55000+60000*R<=580000000+60000*(a+1))(ad:aft)(bj c1:Nat)(a9:aft)(C c2:Nat)(aa:aft)(z aU:Nat)(af:aft)(bk bd:Nat)(w:World)(g h r:Nat)(A:aft)(n c:Nat)(root:Int)(X:afu)(bx:QM w g h r A n S X)(hF:LH w g h r A n c root st.2 st.1)(e1:xu w X a9 C x.fields)(e2:Row w X 1 aa z (uL x.symbols))(hp:C<=100000000)(hq:z<=100000000):Calls Tryz.prog 69 #[sg g,nA x ad bj c1 a9 C c2 aa z aU af bk bd] w (LF w g h r A n c root (W6 (CE S F) x st).2 (W6 (CE S F) x st).1):=by
 have em:=Af cS dx;have gd:=zm em.name;have gs:=ED x.kind;have gk:=vN x.name;have gl:=vN (tI x.kind);have l1:wK.length=8:=rfl;have l2:xR.length=8:=rfl;have l3:zv.length=11:=rfl;have l4:yT.length=12:=rfl;have l5:FQ.length=8:=rfl;have et:g<r/\h<r/\g≠h/\r<=w.heap.size:=eW;have Dk:w.heap.size≠g:=V;have Dl:w.heap.size≠h:=V;have di:=(afw w).al rV (nC x ad bj c1 a9 C c2 aa z aU af bk bd);have G:WV (w.alloc (nC x ad bj c1 a9 C c2 aa z aU af bk bd)) w.heap.size x ad bj c1 a9 C c2 aa z aU af bk bd:=⟨wm.new w x ad bj c1 a9 C c2 aa z aU af bk bd w.heap.size rfl,PD.new _ _ _ bH⟩;have M:=hF.below di;have O:TF g h w (w.alloc (nC x ad bj c1 a9 C c2 aa z aU af bk bd)):=TF.below di;have D:sN g h r w (w.alloc (nC x ad bj c1 a9 C c2 aa z aU af bk bd)):=sN.below (di.mono et.2.2.2);obtain⟨hf,cA⟩:=sW (W6 (CE S F) x st);rw[<-cA];unfold W6 at cA;have ct:=rz cA;have d4:=rz eg;have hi:2<=g:=bx.two.1;clear cA hF em eg;go_enter Tryz.func69,Tryz.ntmps69;go_upto_region 2 with fail;generalize w.alloc _=w1 at*;obtain⟨⟨b0,b1,b2,b3,b4,b5,b6,b7,b8,b9⟩,bz⟩:=G.1;have hc:=uD g h r A n c root st.2 (st.1) wK w1 M bG;go_wp2_with fail;refine sG hc fun bn ⟨F2,hT,hO⟩=> ?_
 clear hc b0 b1 b2 b3 b4 b5 b6 b7 b8 b9 bz;have T2:=O.trans hT;have O2:=D.trans hO;have N2:=G.tf hT Dk Dl;obtain⟨⟨b0,b1,b2,b3,b4,b5,b6,b7,b8,b9⟩,bz⟩:=N2.1;clear hT hO M O D G;have hc:=zk g h r A n c root st.2 (st.1++wK) x.name bn F2 bG V;go_wp2_with fail;refine sG hc fun w3 ⟨F3,hT,hO⟩=> ?_
 clear hc b0 b1 b2 b3 b4 b5 b6 b7 b8 b9 bz;have T3:=T2.trans hT;have O3:=O2.trans hO;have N3:=N2.tf hT Dk Dl;obtain⟨⟨b0,b1,b2,b3,b4,b5,b6,b7,b8,b9⟩,bz⟩:=N3.1;clear hT hO F2 T2 O2 N2;have hc:=uD g h r A n c root st.2 (st.1++wK++sB x.name) xR w3 F3 bG;go_wp2_with fail;refine sG hc fun d3 ⟨c4,hT,hO⟩=> ?_
 clear hc b0 b1 b2 b3 b4 b5 b6 b7 b8 b9 bz;have c7:=T3.trans hT;have bw:=O3.trans hO;have bp:=N3.tf hT Dk Dl;obtain⟨⟨b0,b1,b2,b3,b4,b5,b6,b7,b8,b9⟩,bz⟩:=bp.1;clear hT hO F3 T3 O3 N3;have f2:=BC x.kind d3 (bx.zL.Cm bw bx.two);go_wp2_with fail;refine tZ f2 ?_;clear f2;have hc:=zk g h r A n c root st.2 (st.1++wK++sB x.name++xR) (tI x.kind) d3 c4 bG V;go_wp2_with fail;refine sG hc fun cj ⟨ab,hT,hO⟩=> ?_
 clear hc b0 b1 b2 b3 b4 b5 b6 b7 b8 b9 bz;have ar:=c7.trans hT;have an:=bw.trans hO;have a6:=bp.tf hT Dk Dl;obtain⟨⟨b0,b1,b2,b3,b4,b5,b6,b7,b8,b9⟩,bz⟩:=a6.1;clear hT hO c4 c7 bw bp;have ec:E7 x st.1=st.1++wK++sB x.name++xR++sB (tI x.kind):=rfl;rw[<-ec]at ab;have hg:(E7 x st.1).length<=st.1.length+670:=PS x st.1 gd;clear ec gk gl gs;by_cases be:x.kind=9
 ·have gA:(x.kind==9)=true:=tl.2 be;have ef:=d4.out be;have Bv:=Cn cS be;have a8:=ct.out;rw[rG be]at a8;have De:=rz a8;have QP:=rz e1.len;have g6:C<=40:=iA;clear a8 ct be d4;have hc:=uD g h r A n c root st.2 (E7 x st.1) zv cj ab bG;go_wp2_with fail;refine sG hc fun ck ⟨a5,hT,hO⟩=> ?_
  clear hc b0 b1 b2 b3 b4 b5 b6 b7 b8 b9 bz;have a7:=ar.trans hT;have L:=an.trans hO;have I:=a6.tf hT Dk Dl;obtain⟨⟨b0,b1,b2,b3,b4,b5,b6,b7,b8,b9⟩,bz⟩:=I.1;clear hT hO ab ar an a6;have HKK:=rz ef;clear ef;have bs:∀b,X b->b<r/\b≠g/\b≠h:=bx.Dj;go_wp2_with fail;go_loopw [48] (fun e3 wr=>∃(j:Nat)(v:CS)(ci:Nat),e3=.int .i64 j/\j<=C/\RowKit.Hid (DL (CE S F) j (x.fields.drop j) v=DL (CE S F) 0 x.fields (E7 x st.1++zv,st.2))/\Met S ci v.2/\RowKit.Hid (vD (WQ S F) ((x.fields.drop j).map (·.type)) ci R)/\v.1.length+1320*(C-j)+60000*R<=580000000+60000*ci/\LH wr g h r A n c root v.2 v.1/\TF g h w wr/\sN g h r w wr/\WV wr w.heap.size x ad bj c1 a9 C c2 aa z aU af bk bd) (fun e3 _=>C-(intOf e3).toNat);case atStart=>exact⟨0,(E7 x st.1++zv,st.2),a+1,rfl,sb _,fF,gc,gI,(by simp only[rL,l3,Nat.sub_zero];omega),a5,a7,L,I⟩
  case
   round=>
    obtain⟨j,v,ci,rfl,g5,y,er,cE,g8,M,O,D,G⟩:=hrel;have hs:ci<=R:=vD.le (fun k a b h=>h.1.1) cE.out;obtain⟨w1,e0⟩:=sW wr;subst e0;clear b0 b1 b2 b3 b4 b5 b6 b7 b8 b9 bz;obtain⟨⟨b0,b1,b2,b3,b4,b5,b6,b7,b8,b9⟩,bz⟩:=G.1;have f0:=e1.keep (w':=w1) (Y:=X) (fun q y=>D.cell (bs _ y).1 (bs _ y).2.1 (bs _ y).2.2) ug;by_cases Dx:j<C
    ·have dr:(j:Int)<(C:Int):=V;have Rv:j<x.fields.length:=im;obtain⟨gf,gR,f,cs,d0,cz,k,i,t,B,m,d,B',cZ,cy,rfl,g4,Rt,⟨f7,f8,gW,h0,h5,h6,h7,h8,h9⟩,_,_,_,_⟩:=zq f0 Dx;have dp:x.fields[j]=f:=kP;have g3:=Bv.2 f (dp▸sj Rv);have gn:=vN f.name;have g2:=Al j;have ch:x.fields.drop j=f::x.fields.drop (j+1):=by rw[rM Rv,dp]
     have dj:=cE.out;have E:=y.out;rw[ch]at dj E;simp only[xB]at dj;have HQ:=rz E;have gr:0<w1.heap.size/\r<=w1.heap.size:=⟨by have:=D.size;omega,by have:=D.size;omega⟩;have cb:=(afw w1).al rV (fC f cs d0 cz k i t B m d B' cZ cy);have d5:FdB (w1.alloc (fC f cs d0 cz k i t B m d B' cZ cy)) w1.heap.size f cs d0 cz k i t B m d B' cZ cy:=⟨Cy.new w1 f cs d0 cz k i t B m d B' cZ cy w1.heap.size rfl,PD.new _ _ _ bH⟩;have F2:=M.below cb;have T2:=O.trans (TF.below cb);have O2:=D.trans (sN.below (cb.mono gr.2));have N2:=G.tf (TF.below (g:=g) (h:=h) cb) Dk Dl;have bO:w1.heap.size≠g:=V;have c3:w1.heap.size≠h:=V;clear ch Rt dp E y cE Rv f0 M O D G cb;cases dj with
     |cons cR ds=>
      rename_i f5;go_upto_region 14 with fail;generalize w1.alloc _=bn at*;clear b0 b1 b2 b3 b4 b5 b6 b7 b8 b9 bz f7 f8 gW h0 h5 h6 h7 h8 h9;obtain⟨⟨b0,b1,b2,b3,b4,b5,b6,b7,b8,b9⟩,bz⟩:=N2.1;obtain⟨T,U,W,Z,a0,a1,a2,a3,a4⟩:=d5.1;have hl:=cR.1.1;have hm:f5<=R:=vD.le (fun k a b h=>h.1.1) ds;have hc:=DN j g h r A n c root v.2 v.1 bn F2 V;go_wp2_with fail;refine sG hc fun w3 ⟨F3,hT,hO⟩=> ?_
      clear hc b0 b1 b2 b3 b4 b5 b6 b7 b8 b9 bz T U W Z a0 a1 a2 a3 a4;have T3:=T2.trans hT;have O3:=O2.trans hO;have N3:=N2.tf hT Dk Dl;obtain⟨⟨b0,b1,b2,b3,b4,b5,b6,b7,b8,b9⟩,bz⟩:=N3.1;have d6:=d5.tf hT bO c3;obtain⟨T,U,W,Z,a0,a1,a2,a3,a4⟩:=d6.1;clear hT hO F2 T2 O2 N2 d5;have hc:=uD g h r A n c root v.2 (v.1++tV j) wK w3 F3 bG;go_wp2_with fail;refine sG hc fun d3 ⟨c4,hT,hO⟩=> ?_
      clear hc b0 b1 b2 b3 b4 b5 b6 b7 b8 b9 bz T U W Z a0 a1 a2 a3 a4;have c7:=T3.trans hT;have bw:=O3.trans hO;have bp:=N3.tf hT Dk Dl;obtain⟨⟨b0,b1,b2,b3,b4,b5,b6,b7,b8,b9⟩,bz⟩:=bp.1;have d7:=d6.tf hT bO c3;obtain⟨T,U,W,Z,a0,a1,a2,a3,a4⟩:=d7.1;clear hT hO F3 T3 O3 N3 d6;have hc:=zk g h r A n c root v.2 (v.1++tV j++wK) f.name d3 c4 bG V;go_wp2_with fail;refine sG hc fun cj ⟨ab,hT,hO⟩=> ?_
      clear hc b0 b1 b2 b3 b4 b5 b6 b7 b8 b9 bz T U W Z a0 a1 a2 a3 a4;have ar:=c7.trans hT;have an:=bw.trans hO;have a6:=bp.tf hT Dk Dl;obtain⟨⟨b0,b1,b2,b3,b4,b5,b6,b7,b8,b9⟩,bz⟩:=a6.1;have d8:=d7.tf hT bO c3;obtain⟨T,U,W,Z,a0,a1,a2,a3,a4⟩:=d8.1;clear hT hO c4 c7 bw bp d7;have hc:=uD g h r A n c root v.2 (v.1++tV j++wK++sB f.name) xR cj ab bG;go_wp2_with fail;refine sG hc fun ck ⟨a5,hT,hO⟩=> ?_
      clear hc b0 b1 b2 b3 b4 b5 b6 b7 b8 b9 bz T U W Z a0 a1 a2 a3 a4;have a7:=ar.trans hT;have L:=an.trans hO;have I:=a6.tf hT Dk Dl;obtain⟨⟨b0,b1,b2,b3,b4,b5,b6,b7,b8,b9⟩,bz⟩:=I.1;have d9:=d8.tf hT bO c3;obtain⟨T,U,W,Z,a0,a1,a2,a3,a4⟩:=d9.1;clear hT hO ab ar an a6 d8;have hc:=cR.2 (v.1++tV j++wK++sB f.name++xR,v.2) er fo ck g h r A n c root X (bx.Cm L) a5;go_wp2_with fail;refine sG hc fun cp ⟨c5,hT,hO⟩=> ?_
      clear hc b0 b1 b2 b3 b4 b5 b6 b7 b8 b9 bz T U W Z a0 a1 a2 a3 a4;have c8:=a7.trans hT;have c6:=L.trans hO;have br:=I.tf hT Dk Dl;obtain⟨⟨b0,b1,b2,b3,b4,b5,b6,b7,b8,b9⟩,bz⟩:=br.1;have dd:=d9.tf hT bO c3;obtain⟨T,U,W,Z,a0,a1,a2,a3,a4⟩:=dd.1;clear hT hO a5 a7 L I d9;obtain⟨ga,g7⟩:=cR.1.2.2 (v.1++tV j++wK++sB f.name++xR,v.2) er;have ed:T8 (CE S F) j f v=((CE S F f.type.toNat (v.1++tV j++wK++sB f.name++xR,v.2)).1++[125],(CE S F f.type.toNat (v.1++tV j++wK++sB f.name++xR,v.2)).2):=rfl;have dz:=HQ.out;rw[DL,ed]at dz;have ho:(v.1++tV j++wK++sB f.name++xR).length<=v.1.length+619:=fo;simp only at g7;generalize CE S F f.type.toNat (v.1++tV j++wK++sB f.name++xR,v.2)=d2 at*;have fi:=rz dz;clear dz HQ ed cR;have hc:=uD g h r A n c root d2.2 d2.1 [125] cp c5 oq;go_wp2_with fail;refine sG hc fun f6 ⟨fb,hT,hO⟩=> ?_
      clear hc b0 b1 b2 b3 b4 b5 b6 b7 b8 b9 bz T U W Z a0 a1 a2 a3 a4;have fx:=c8.trans hT;have fm:=c6.trans hO;have e7:=br.tf hT Dk Dl;obtain⟨⟨b0,b1,b2,b3,b4,b5,b6,b7,b8,b9⟩,bz⟩:=e7.1;have fj:=dd.tf hT bO c3;obtain⟨T,U,W,Z,a0,a1,a2,a3,a4⟩:=fj.1;clear hT hO c5 c8 c6 br dd;have ff:=rz ds;clear ds;go_wp2_with fail;refine⟨⟨j+1,(d2.1++[125],d2.2),f5,bA,V,fi.out,ga,ff.out,fw,fb,fx,fm,e7⟩,?_⟩;exact bN
    ·obtain rfl:j=C:=V;have dr:¬(j:Int)<(j:Int):=V;have E:=y.out;rw[tD (by rw[QP.out];omega),DL]at E;have HQ:=rz E;clear y E cE HKK a5 a7 L I;have hc:=uD g h r A n c root v.2 (v.1) [93] w1 M bG;go_wp2_with fail;refine sG hc fun bn ⟨F2,hT,hO⟩=> ?_
     clear hc b0 b1 b2 b3 b4 b5 b6 b7 b8 b9 bz;have T2:=O.trans hT;have O2:=D.trans hO;have N2:=G.tf hT Dk Dl;obtain⟨⟨b0,b1,b2,b3,b4,b5,b6,b7,b8,b9⟩,bz⟩:=N2.1;clear hT hO M O D G;have hc:=uD g h r A n c root v.2 (v.1++[93]) [125] bn F2 bG;exact cG
 ·have gA:(x.kind==9)=false:=rA.2 be;have a8:=ct.out;rw[rB be]at a8;clear ct d4 e1;by_cases bv:x.kind=10
  ·have gz:(x.kind==10)=true:=tl.2 bv;have Bv:=DM cS bv;rw[rG bv]at a8;have De:=rz a8;have QP:=rz (show x.symbols.length=z by have:=e2.len;exact db);have g6:z<=40:=iA;clear a8 bv be;have hc:=uD g h r A n c root st.2 (E7 x st.1) yT cj ab bG;go_wp2_with fail;refine sG hc fun ck ⟨a5,hT,hO⟩=> ?_
   clear hc b0 b1 b2 b3 b4 b5 b6 b7 b8 b9 bz;have a7:=ar.trans hT;have L:=an.trans hO;have I:=a6.tf hT Dk Dl;obtain⟨⟨b0,b1,b2,b3,b4,b5,b6,b7,b8,b9⟩,bz⟩:=I.1;clear hT hO ab ar an a6;have bs:∀b,X b->b<r/\b≠g/\b≠h:=bx.Dj;go_wp2_with fail;go_loopw [80] (fun e4 wr=>∃(j:Nat)(az:afs),e4=.int .i64 j/\j<=z/\RowKit.Hid (Ge j (x.symbols.drop j) az=Ge 0 x.symbols (E7 x st.1++yT))/\az.length+610*(z-j)<=890000000/\LH wr g h r A n c root st.2 az/\TF g h w wr/\sN g h r w wr/\WV wr w.heap.size x ad bj c1 a9 C c2 aa z aU af bk bd) (fun e4 _=>z-(intOf e4).toNat);case atStart=>exact⟨0,E7 x st.1++yT,rfl,sb _,fF,(by simp only[rL,l4,Nat.sub_zero];omega),a5,a7,L,I⟩
   case
    round=>
     obtain⟨j,az,rfl,g5,y,g8,M,O,D,G⟩:=hrel;obtain⟨w1,e0⟩:=sW wr;subst e0;clear b0 b1 b2 b3 b4 b5 b6 b7 b8 b9 bz;obtain⟨⟨b0,b1,b2,b3,b4,b5,b6,b7,b8,b9⟩,bz⟩:=G.1;have f1:=e2.keep (w':=w1) (Y:=X) (fun q y=>D.cell (bs _ y).1 (bs _ y).2.1 (bs _ y).2.2) ug;by_cases Dx:j<z
     ·have dr:(j:Int)<(z:Int):=V;have Rv:j<x.symbols.length:=im;obtain⟨gf,gR,rfl,g4,ei⟩:=f1.pos V;have en:=(ei j [sv x.symbols[j]] (by simp[uL,Rv])).2 0 _ rfl;rw[tL,sE]at en;unfold sv at en;have g3:=Bv.2 x.symbols[j] (sj Rv);have gn:=vN x.symbols[j];have g2:=Al j;have ch:x.symbols.drop j=x.symbols[j]::x.symbols.drop (j+1):=rM Rv;have E:=y.out;rw[ch]at E;rw[Ge]at E;generalize x.symbols[j]=s at*;have HQ:=rz E;clear ch E y Rv f1 ei;have hc:=DN j g h r A n c root st.2 az w1 M V;go_wp2_with fail;refine sG hc fun bn ⟨F2,hT,hO⟩=> ?_
      clear hc b0 b1 b2 b3 b4 b5 b6 b7 b8 b9 bz;have T2:=O.trans hT;have O2:=D.trans hO;have N2:=G.tf hT Dk Dl;obtain⟨⟨b0,b1,b2,b3,b4,b5,b6,b7,b8,b9⟩,bz⟩:=N2.1;clear hT hO M O D G;have hc:=zk g h r A n c root st.2 (az++tV j) s bn F2 bG V;go_wp2_with fail;refine sG hc fun w3 ⟨F3,hT,hO⟩=> ?_
      clear hc b0 b1 b2 b3 b4 b5 b6 b7 b8 b9 bz;have T3:=T2.trans hT;have O3:=O2.trans hO;have N3:=N2.tf hT Dk Dl;obtain⟨⟨b0,b1,b2,b3,b4,b5,b6,b7,b8,b9⟩,bz⟩:=N3.1;clear hT hO F2 T2 O2 N2;go_wp2_with fail;refine⟨⟨j+1,az++tV j++sB s,bA,V,HQ.out,dY,F3,T3,O3,N3⟩,?_⟩;exact bN
     ·obtain rfl:j=z:=V;have dr:¬(j:Int)<(j:Int):=V;have E:=y.out;rw[tD (by rw[QP.out];omega),Ge]at E;have HQ:=rz E;clear y E a5 a7 L I;have hc:=uD g h r A n c root st.2 (az) [93] w1 M bG;go_wp2_with fail;refine sG hc fun bn ⟨F2,hT,hO⟩=> ?_
      clear hc b0 b1 b2 b3 b4 b5 b6 b7 b8 b9 bz;have T2:=O.trans hT;have O2:=D.trans hO;have N2:=G.tf hT Dk Dl;obtain⟨⟨b0,b1,b2,b3,b4,b5,b6,b7,b8,b9⟩,bz⟩:=N2.1;clear hT hO M O D G;have hc:=uD g h r A n c root st.2 (az++[93]) [125] bn F2 bG;exact cG
  ·have gz:(x.kind==10)=false:=rA.2 bv;rw[rB bv]at a8;have De:=rz a8;have f4:x.kind=14:=by unfold sr at dx;simp at dx;omega
   have hv:=(G9 cS f4).1;have hr:=MG x.size;clear a8 bv be f4 e2;have hc:=uD g h r A n c root st.2 (E7 x st.1) FQ cj ab bG;go_wp2_with fail;refine sG hc fun ck ⟨a5,hT,hO⟩=> ?_
   clear hc b0 b1 b2 b3 b4 b5 b6 b7 b8 b9 bz;have a7:=ar.trans hT;have L:=an.trans hO;have I:=a6.tf hT Dk Dl;obtain⟨⟨b0,b1,b2,b3,b4,b5,b6,b7,b8,b9⟩,bz⟩:=I.1;clear hT hO ab ar an a6;have gi:g<r/\r<=ck.heap.size:=⟨et.1,by have:=L.size;omega⟩;go_upto_region 8 with fail;refine vO (K:=Below) Below.keeps (sA.of [0,1,2,3,4,5,6] .nil) 7 (sA.of [8,9,10] .nil) [10] [4,6] bm bm bF bm bt (fun wd cf tj=> ?_);have Fd:=a5.below (cf.mono rV);have cv:=I.tf (TF.below (g:=g) (h:=h) cf) Dk Dl;have ea:=a7.trans (TF.below (g:=g) (h:=h) cf);have e8:=L.trans (sN.below (cf.mono gi.2));have hu:r<=wd.heap.size:=V;clear b0 b1 b2 b3 b4 b5 b6 b7 b8 b9 bz a5 I a7 L cf tj;obtain⟨⟨b0,b1,b2,b3,b4,b5,b6,b7,b8,b9⟩,bz⟩:=cv.1;have ht:=cv.2.1;obtain⟨f9,gx,fS,a⟩:=Fd;have eb:=a;obtain⟨⟨ha,hd,he,e5⟩,zz,g9,gb,cW,ek,hk,hj,go⟩:=a;have eh:=cW.len;simp only[rL,l5]at eh;have f3:=zz 3;have y:=LO f9 gx fS r (E7 x st.1++FQ) x.size V V wd cW V go;clear eh ha hd he g9 gb zz;repeat((first|(refine wM rfl rfl rfl rfl bo ?_)|(refine wO rfl rfl rfl rfl ?_)|(refine wN rfl rfl rfl rfl (wd.heap.size) V _ (by intro w' hb;have f7:=(hb.cell (p:=rN g 3) bl).trans e5;have f8:=(hb.cell (p:=rN w.heap.size 7) bl).trans b7;clear hb;go_simp;first|done|with_reducible rfl) ?_));simp only[Act.put,rH,rC,rF])
   refine Az rfl (fun ft c9=> ?_);go_wp2_with fail;refine y.mono ?_;rintro e' cp ⟨cr,d1,cx,rfl,es,cc,el⟩;clear y;go_wp2_with fail;refine c9 _ _ trivial ?_;clear c9;refine ah ?_;have g0:=cc.cl e5 ek;have g1:=(cc.frozen (p:=rN g 3) ek).trans f3;refine se rfl rfl 0 rV (fun ft c9=> ?_);go_wp2_with fail;refine c9 _ _ trivial ?_;clear c9;refine sF ?_;have df:=(TF.gro (g:=g) (h:=h) cW el).trans (TF.Fu (g:=g) (h:=h) 3 (.slice cr d1 cx));have e6:LH (cp.setCell ⟨g,3,none⟩ (.slice cr d1 cx)) g h r A n c root st.2 (E7 x st.1++FQ++zZ x.size):=⟨cr,d1,cx,eb.store cc es⟩;have e9:sN g h r wd (cp.setCell ⟨g,3,none⟩ (.slice cr d1 cx)):=(sN.below cc).trans (sN.Fu 3 _);have br:=cv.tf df Dk Dl;have c8:=ea.trans df;have c6:=e8.trans e9;clear b0 b1 b2 b3 b4 b5 b6 b7 b8 b9 bz cv ea e8 eb cW e5 f3 g0 g1 es cc el df e9;have c5:=e6;clear e6;generalize cp.setCell _ _=f6 at*;obtain⟨⟨b0,b1,b2,b3,b4,b5,b6,b7,b8,b9⟩,bz⟩:=br.1;have hc:=uD g h r A n c root st.2 (E7 x st.1++FQ++zZ x.size) [125] f6 c5 bG;go_wp2_with fail;refine sG hc fun hx ⟨fc,hT,hO⟩=> ?_
   clear hc b0 b1 b2 b3 b4 b5 b6 b7 b8 b9 bz;have fE:=c8.trans hT;have fn:=c6.trans hO;have fl:=br.tf hT Dk Dl;obtain⟨⟨b0,b1,b2,b3,b4,b5,b6,b7,b8,b9⟩,bz⟩:=fl.1;clear hT hO c5 c8 c6 br;go_wp2_with fail;refine uv (tR rfl _ _ _) rfl ?_;rw[De.out];exact⟨rfl,fc,fE,fn⟩
end
section
variable{P:Program}{α:Type}{Is:World->(Nat->Prop)->List Value->α->Prop}{e:TypeId}{k:Nat}{S N:afu}{w:World}{H n c:Nat}{A:aft}{l:List α}
def K0(hW:Way Is k){t ty:TypeId}{i:TypeInfo}{z:Value}{bytes:Nat}(X:P.underlying t=some (.slice e))(R:P.info? e=some i)(Y:i.zero=some z)(W:i.size=k)(M:i.bytes=bytes)(Z:z.cells.size=k)(T:0<k)(hb:bytes<=1000)(h:uK Is e k S N w H A n c l){x:α}{cs:List Value}(hx:Is w (fun b=>(S b\/H<=b)/\b<w.heap.size/\A.map (·.block)≠some b/\¬N b) cs x)(K:∀b,N b->b<w.heap.size){q:Nat}{cap:Nat}(hq:∀j u,cs[j]? =some u->w.cell? (rN q j)=some u)(v:n<=100000000)(y:H<=w.heap.size):∃g c2 w',(Builtin.append_ #[t,t] ty #[.slice A n c,.slice (some ⟨q,0,none⟩) 1 cap]).run P w=.ok (.slice g (n+1) c2) w'/\uK Is e k S N w' H g (n+1) c2 (l++[x])/\Below H w w'/\Lu A w w'/\(g.map (·.block)=A.map (·.block)\/g.map (·.block)=some w.heap.size):=by
 have Xl:=h.block;obtain⟨p,F,h2,G,I,h4⟩:=h;obtain⟨a0,w',U,g2,r,a1,g5⟩:=vu (P:=P) w H t ty e i z k bytes X R Y W M Z T (.slice A n c) n p.flatten F ⟨q,0,none⟩ 1 cap cs (by rw[hW.len hx];omega) (fun j u hu=>eS) (hW.one hx) dD eq y;have O:∃g c2,a0=.slice g (n+1) c2:=cU;obtain⟨g,c2,rfl⟩:=O;have Lz:∀(B:aft)(m d:Nat),(Value.slice B m d).ownBlock=B.map (·.block):=fun B m d=>eI
 rw[Lz,Lz]at g5;have L:Below H w w':=xn.grown r y fun b hb=>jP
 have hold:∀b,b<w.heap.size->A.map (·.block)≠some b->w'.heap[b]? =w.heap[b]?:=fun b hb Iy=>r.block b hb (fun he=>Iy fU)
 refine⟨g,c2,w',U,⟨p++[cs],by rw[LK];simpa using g2,?_,by simp[G],?_,?_⟩,L,⟨r.size,hold⟩,g5⟩;·exact fV
 ·intro b hb v;rcases g5 with g5|g5;·rw[hb]at g5;exact I b g5.symm v
  ·rw[hb]at g5;injection g5 with g5;have:=K b v;omega
 ·have hA2:∀b,b<w.heap.size->A.map (·.block)≠some b->g.map (·.block)≠some b:=fun b hb Iy he=>gS
  intro j C D;rw[rL]at C D;simp only[IH]at C D;have a2:=r.size;by_cases hlt:j<p.length;·exact ng
  ·have E:j=p.length:=V;subst E;rw[uh rV,uh V];simp only[GS,List.getElem_singleton];exact hW.keep hx (fun q hq=>rK (w:=w) (hold q.block hq.2.1 hq.2.2.1)) (fun b hb=>⟨hb.1,V,hA2 b hb.2.1 hb.2.2.1,hb.2.2.2⟩)
end
section
variable{ops:Array Oper}{Q:Exit->Act->World->Prop}{rest:List Oper}{a:Act}{w:World}
def wV{t ty:TypeId}{α:Type}{Is:World->(Nat->Prop)->List Value->α->Prop}{e:TypeId}{k:Nat}{S N:afu}{H n c:Nat}{A:aft}{l:List α}{d:Option Tmp}{s x:Operand}{r:String}{m:Array Edge}{p:Option (Nat×Bool)}(I:Region.wanted ⟨d,.call {callee:=.builtin .append,args:= #[s,x],argTypes:= #[t,t]},ty,r,m,p⟩ (yielded ops a.tmps)=true){z:Value}{bytes:Nat}(G:Tryz.prog.underlying t=some (.slice e))(g:(Tryz.prog.info? e).map (fun i=>(i.zero,i.size,i.bytes))=some (some z,k,bytes))(T:z.cells.size=k)(D:0<k)(hb:bytes<=1000)(B:Way Is k)(hs:a.eval s=.slice A n c){q cap:Nat}(hx:a.eval x=.slice (some ⟨q,0,none⟩) 1 cap)(h:uK Is e k S N w H A n c l){y:α}{cs:List Value}(L:Is w (fun b=>(S b\/H<=b)/\b<w.heap.size/\A.map (·.block)≠some b/\¬N b) cs y)(v:∀b,N b->b<w.heap.size)(F:∀j u,cs[j]? =some u->w.cell? (rN q j)=some u)(E:n<=100000000)(C:H<=w.heap.size)(hh:∀A2 c2 w',uK Is e k S N w' H A2 (n+1) c2 (l++[y])->Below H w w'->Lu A w w'->(A2.map (·.block)=A.map (·.block)\/A2.map (·.block)=some w.heap.size)->wpList Tryz.prog ops Q rest (a.put d (.slice A2 (n+1) c2)) w'):wpList Tryz.prog ops Q (⟨d,.call {callee:=.builtin .append,args:= #[s,x],argTypes:= #[t,t]},ty,r,m,p⟩::rest) a w:=by
 obtain⟨U,g,M,O,R⟩:=xG g;refine tG I fun K hK=> ?_
 obtain⟨A2,c2,w',IS,h2,h3,h4,h5⟩:=K0 (P:=Tryz.prog) (ty:=ty) B G g M O R T D hb h L v (cap:=cap) F E C;exact cB
end
def ya(w:World)(X:afu)(t:afs):uq w X (jv 4 0 ⟨t.toArray⟩ none 0 0 none 0 0) (jT t):=.mk (Row.nil _ _ _ _) rfl (fun i h=>absurd h bA) (Row.nil _ _ _ _) rV rV V V
def yd(t:afs)(w:World):Calls Tryz.prog 112 #[.string ⟨t.toArray⟩] w (vh w (jA 4 0 ⟨t.toArray⟩ none 0 0 none 0 0)):=by go_enter Tryz.func112,Tryz.ntmps112;go_wp2_with fail;refine sc (uX (k:=4) (i:=0) (t:=⟨t.toArray⟩) (A:=none) (n:=0) (c:=0) (A':=none) (n':=0) (c':=0) rfl rfl ⟨bi,bi,bi,bi,bi⟩) rfl ?_;exact ik
def HT(w:World):Calls Tryz.prog 115 #[.slice none 0 0] w (vh w (jA 5 0 ⟨#[]⟩ none 0 0 none 0 0)):=by go_enter Tryz.func115,Tryz.ntmps115;go_wp2_with fail;refine sc (uX (k:=5) (i:=0) (t:=⟨#[]⟩) (A:=none) (n:=0) (c:=0) (A':=none) (n':=0) (c':=0) rfl rfl ⟨bi,bi,bi,bi,bi⟩) rfl ?_;exact ik
def abp(w:World)(e:Ending)(w':World):Prop:=e=.returned (.tuple #[sg w.heap.size,.func (.func 172) #[] #[sg (w.heap.size+1)]])/\w'.heap.size=w.heap.size+2/\vW w' w.heap.size 6 0 ⟨#[]⟩ none 0 0 none 0 0/\w'.cell? (rN (w.heap.size+1) 0)=some (sg w.heap.size)/\afv w w'
def Cl(w:World):Calls Tryz.prog 116 #[] w (abp w):=by go_enter Tryz.func116,Tryz.ntmps116;go_wp2_with fail;go_ret2;exact⟨rfl,bA,⟨⟨bi,bi,bi,bi,bi⟩,fun j=>bi⟩,bi,(xn.alloc rV _).alloc bA _⟩
def Obj(w:World)(B1 o H:Nat)(S:afu)(ks:List afs)(l:List J)(A:aft)(n c:Nat)(A':aft)(n' c':Nat):Prop:=w.cell? (rN B1 0)=some (sg o)/\vW w o 6 0 ⟨#[]⟩ A n c A' n' c'/\uK uq 60 5 S (fun b=>A'.map (·.block)=some b) w H A n c l/\uK Nn 9 1 nS (fun b=>A.map (·.block)=some b) w H A' n' c' ks/\(B1<H/\o<H/\B1≠o/\H<=w.heap.size)/\(∀b,S b->b<H/\b≠o/\b≠B1)
def Obj.new{w w':World}{e:Ending}(h:abp w e w')(S:afu)(i:∀b,S b->b<w.heap.size):Obj w' (w.heap.size+1) w.heap.size w'.heap.size S [] [] none 0 0 none 0 0:=by obtain⟨_,j,d,g,_⟩:=h;exact⟨g,d,uK.nil _ _ _ _ _ _ _,uK.nil _ _ _ _ _ _ _,⟨V,V,V,rZ _⟩,fun b hb=>by have:=i b hb;omega⟩
section
variable{w w':World}{B1 o H n c n' c':Nat}{S:afu}{ks:List afs}{l:List J}{A A':aft}
def Obj.keep(a:Obj w B1 o H S ks l A n c A' n' c')(m:w.heap.size<=w'.heap.size)(hb:∀b,(S b\/b=B1\/b=o\/H<=b)->b<w.heap.size->w'.heap[b]? =w.heap[b]?):Obj w' B1 o H S ks l A n c A' n' c':=by obtain⟨p,q,r,t,⟨y,z,B,C⟩,v⟩:=a;have x:=hb B1 (.inr (.inl rfl)) V;have i:=hb o (.inr (.inr (.inl rfl))) V;refine⟨(rK (w:=w) (a:=rN B1 0) x).trans p,q.keep (fun j=>rK (w:=w) (a:=rN o j) i) (fun j=>sP (w:=w) (a:=rN o j) i),r.grown ve m (fun b d g _=>hb b (by rcases d with h|h;exact .inl h;exact .inr (.inr (.inr h))) g),t.grown uz m (fun b d g _=>hb b (by rcases d with h|h;exact h.elim;exact .inr (.inr (.inr h))) g),⟨y,z,B,V⟩,v⟩
def Obj.below(a:Obj w B1 o H S ks l A n c A' n' c')(hb:afv w w'):Obj w' B1 o H S ks l A n c A' n' c':=a.keep hb.size (fun b _ h=>hb.block b h)
def Obj.Cm(a:Obj w B1 o H S ks l A n c A' n' c'){g h:Nat}(hb:sN g h w.heap.size w w')(d:g<H/\g≠o/\g≠B1/\¬S g)(i:h<H/\h≠o/\h≠B1/\¬S h):Obj w' B1 o H S ks l A n c A' n' c':=a.keep hb.size (fun b j m=>hb.block b m (by rintro rfl;rcases j with h|h|h|h;exact d.2.2.2 h;exact d.2.2.1 h;exact d.2.1 h;omega) (by rintro rfl;rcases j with h|h|h|h;exact i.2.2.2 h;exact i.2.2.1 h;exact i.2.1 h;omega))
def Obj.isJ(a:Obj w B1 o H S ks l A n c A' n' c')(j:n<=100000000)(m:n'<=100000000):uq w (fun b=>(S b\/H<=b)/\b<w.heap.size) (jv 6 0 ⟨#[]⟩ A n c A' n' c') (jO ks l):=by obtain⟨_,_,d,g,_,_⟩:=a;obtain⟨t,p,q,r⟩:=d.row ve V;have i:Row w (fun b=>(S b\/H<=b)/\b<w.heap.size) 1 A' n' (uL ks):=(C2 g).keep (fun _ _=>rfl) (fun b hb=>⟨.inr hb.1,hb.2⟩);exact .mk p q r i d.cap g.cap j m
end
def Zj(w:World)(B1 o H:Nat)(S:afu)(ks:List afs)(l:List J)(e:Ending)(w':World):Prop:=e=.returned (.tuple #[])/\(∃(A:aft)(n c:Nat)(A':aft)(n' c':Nat),Obj w' B1 o H S ks l A n c A' n' c')/\sa o H w w'
def XV(key:afs)(k i:Int)(t:ByteArray)(b:aft)(m g:Nat)(d:aft)(p h:Nat)(w:World)(B1 o H:Nat)(S:afu)(ks:List afs)(l:List J)(A:aft)(n c:Nat)(A':aft)(n' c':Nat)(a:Obj w B1 o H S ks l A n c A' n' c'):Calls Tryz.prog 172 #[.bool false,.string ⟨key.toArray⟩,jA k i t b m g d p h,sg B1] w (Zj w B1 o H S ks l):=by have j:=(afw w).al rV (jC k i t b m g d p h);go_enter Tryz.func172,Tryz.ntmps172;go_wp2_with fail;refine uv (tR rfl _ _ _) rfl ?_;exact⟨rfl,⟨A,n,c,A',n',c',a.below j⟩,sa.of (j.mono a.2.2.2.2.1.2.2.2)⟩
def Vg(key:afs)(x:J)(k i:Int)(t:ByteArray)(Ax:aft)(nx cx:Nat)(Ay:aft)(ny cy:Nat)(w:World)(B1 o H:Nat)(S:afu)(ks:List afs)(l:List J)(A:aft)(n c:Nat)(A':aft)(n' c':Nat)(a:Obj w B1 o H S ks l A n c A' n' c')(c6:uq w (fun b=>(S b\/H<=b)/\b<w.heap.size/\A.map (·.block)≠some b/\A'.map (·.block)≠some b) (jv k i t Ax nx cx Ay ny cy) x)(cp:l.length<=1000)(cj:ks.length<=1000):Calls Tryz.prog 172 #[.bool true,.string ⟨key.toArray⟩,jA k i t Ax nx cx Ay ny cy,sg B1] w (Zj w B1 o H S (ks++[key]) (l++[x])):=by
 have cr:n<=1000:=by have:=a.2.2.1.len V;omega
 have ck:n'<=1000:=by have:=a.2.2.2.1.len V;omega
 have sK:=(afw w).al rV (jC k i t Ax nx cx Ay ny cy);have bp:=a.below sK;have bj:=vW.new w k i t Ax nx cx Ay ny cy w.heap.size rfl;have c5:=sK.l1;have b3:=c6.keep (w':=w.alloc (jC k i t Ax nx cx Ay ny cy)) (Y:=fun b=>(S b\/H<=b)/\b<w.heap.size/\A.map (·.block)≠some b/\A'.map (·.block)≠some b) (fun q hq=>sK.cell hq.2.1) ug;have Xk:∀b,A'.map (·.block)=some b->H<=b/\b<w.heap.size:=fun b hb=>⟨(a.2.2.2.1.block b hb).1,(a.2.2.2.1.block b hb).2.1⟩
 have adq:∀b,A.map (·.block)=some b->H<=b/\b<w.heap.size:=fun b hb=>⟨(a.2.2.1.block b hb).1,(a.2.2.1.block b hb).2.1⟩
 obtain⟨B,a9⟩:∃B:Nat->Prop,B=fun b=>(S b\/H<=b)/\b<w.heap.size/\A.map (·.block)≠some b/\A'.map (·.block)≠some b:=⟨_,rfl⟩
 rw[<-a9]at b3;have Rr:∀b,B b->(S b\/H<=b)/\b<w.heap.size/\A.map (·.block)≠some b/\A'.map (·.block)≠some b:=fun b hb=>by rw[a9]at hb;exact hb
 have hX0:∀b,B b->b<w.heap.size:=fun b hb=>(Rr b hb).2.1
 have hXK:∀b,B b->A'.map (·.block)≠some b:=fun b hb=>(Rr b hb).2.2.2
 clear a9;go_enter Tryz.func172,Tryz.ntmps172;go_upto_region 2 with fail;generalize w.alloc _=w1 at*;obtain⟨hB1,hJo,c3,c4,⟨hp1,hp2,SZ,cv⟩,hSb⟩:=bp;have ct:∀b,(b=o\/b=B1\/b=w.heap.size)->b<H\/b=w.heap.size:=fun b hb=>V
 refine Dq (K:=Kb (fun b=>b=o\/b=w.heap.size\/b=B1)) (Kp:=Kb (fun b=>b=B1)) (Kb.keeps _) (Kb.keeps _) (sA.of [0,1,2,3,4,5,6,9,10,11,12,13] (.fork 7 ((.fork 8 (sA.of [14,15,16,17] .nil) 14 (sA.of [8,15,16,17] .nil))) 14 (sA.of [7,8,15,16,17] .nil))) 18 (sA.of [19,20,21] .nil) [7,8,14,15,21] [0,2,5,9,12,13] [1] bm bm bF bm bt (fun wd D tj=> ?_);have Bv:afv w1 wd:=D;have hwH:H<=w.heap.size:=a.2.2.2.2.1.2.2.2;have ci:w1.heap.size<=wd.heap.size:=V;have a7:=D.cl hB1 V;have bn:=hJo.below D V;have bk:=bj.below D c5;obtain⟨⟨c8,c9,cb,b8,b9⟩,cc⟩:=bn;obtain⟨⟨an,ar,az,aU,b0⟩,bz⟩:=bk;have aa:=c3.below ve D;have ab:=c4.below uz D;have be:=b3.keep (w':=wd) (Y:=B) (fun q hq=>D.cell eA) ug;have b1:Below H wd wd:=Below.refl _ _;have b5:=D.block o V;have ad:=D.block B1 V;have cz:w.heap.size<wd.heap.size:=V;have RB:∀b,(b=o\/b=w.heap.size)->b<wd.heap.size:=fun b hb=>V
 have Oy:∀b,b=B1->b<wd.heap.size:=fun b hb=>V
 clear D tj;repeat((first|(refine Gq rfl rfl rfl rfl rfl bo ?_)|(refine Gs rfl rfl rfl rfl rfl ?_)|(refine Gr rfl rfl rfl rfl 0 rV _ (by intro w' hb;have ch:=(Kb.cell hb (q:=rN B1 0) (by simp)).trans a7;have cA:=(Kb.cell hb (q:=rN o 3) (by simp)).trans b8;have cE:=(Kb.cell hb (q:=rN o 4) (by simp)).trans b9;have cR:=(Kb.cell hb (q:=rN w.heap.size 0) (by simp)).trans an;have cS:=(Kb.cell hb (q:=rN w.heap.size 1) (by simp)).trans ar;have cW:=(Kb.cell hb (q:=rN w.heap.size 2) (by simp)).trans az;have cZ:=(Kb.cell hb (q:=rN w.heap.size 3) (by simp)).trans aU;have d0:=(Kb.cell hb (q:=rN w.heap.size 4) (by simp)).trans b0;clear hb;go_simp;first|done|with_reducible rfl) ?_)|(refine B9 rfl rfl rfl rfl rfl _ (by intro w' hb;have ch:=(Kb.cell hb (q:=rN B1 0) (by simp)).trans a7;clear hb;go_simp;first|done|with_reducible rfl) ?_));simp only[Act.put,rH,rC,rF])
 clear a7 c8 c9 cb b8 b9 cc an ar az aU b0 bz;refine Kk rfl rfl (fun Q1 tv=> ?_) (fun Q1 tv=> ?_)
 ·go_wp2_with fail;have v:=(afw wd).al rV (.cells #[.string ⟨key.toArray⟩] 9);have af:(wd.alloc (.cells #[.string ⟨key.toArray⟩] 9)).cell? (rN wd.heap.size 0)=some (.string ⟨key.toArray⟩):=bi;have c7:=v.l1;refine tv _ _ (Kb.below (fun b hb=>iL) v) (Kb.below Oy v) ?_;clear tv;have L:=aa.below ve v;have W:=ab.below uz v;have a1:=be.keep (w':=wd.alloc (.cells #[.string ⟨key.toArray⟩] 9)) (Y:=B) (fun q hq=>v.cell eA) ug;have Z:=b1.trans (v.mono (B':=H) V);have a0:=(v.block o (RB o (.inl rfl))).trans b5;have X:=(v.block B1 (Oy B1 rfl)).trans ad;generalize wd.alloc _=m at*;have Mq:∀b,(b=o\/b=w.heap.size)->b<m.heap.size:=fun b hb=>by have:=RB b hb;omega
  have KI:∀b,b=B1->b<m.heap.size:=fun b hb=>by have:=Oy b hb;omega
  have cf:w.heap.size<m.heap.size:=V;refine aJ ?_;refine Kk rfl rfl (fun Q1 tv=> ?_) (fun Q1 tv=> ?_)
  ·go_wp2_with(at_builtin;go_must(refine wV (z:=.string ⟨#[]⟩) (bytes:=16) (y:=key) (cs:=[sv key]) rfl ub yQ rfl V V uz rfl rfl W rfl (fun b hb=>(L.block b hb).2.1) (fun j u hu=>by rcases j with _|j<;>simp at hu;subst hu;unfold sv;exact af) V V ?_);intro Bk ek g M bO G b2);have I:∀b,(b=o\/b=w.heap.size\/b=B1)->b<m.heap.size/\A'.map (·.block)≠some b:=fun b hb=>⟨eD,fun he=>by have:=Xk b he;omega⟩
   refine tv _ _ (Kb.DZ I G) (Kb.DZ (fun b hb=>I b (.inr (.inr hb))) G) ?_;clear tv;have F:=L.DZ ve G b2;have U:=a1.keep (w':=g) (Y:=B) (fun q hq=>rK (w:=m) (G.2 _ eA (hXK _ hq))) ug;have R:=Z.trans bO;have b6:=G.1;have b4:∀b,B b->Bk.map (·.block)≠some b:=fun b hb he=>by rcases b2 with h|h;exact hXK b hb (h.symm.trans he);(rw[h]at he;injection he with he;have:=hX0 b hb;omega)
   have T:=(G.2 o (I o (.inl rfl)).1 (I o (.inl rfl)).2).trans a0;have O:=(G.2 B1 (I B1 (.inr (.inr rfl))).1 (I B1 (.inr (.inr rfl))).2).trans X;have Ox:∀b,(b=o\/b=w.heap.size)->b<g.heap.size:=fun b hb=>by have:=Mq b hb;omega
   have Oz:∀b,b=B1->b<g.heap.size:=fun b hb=>by have:=KI b hb;omega
   have bd:w.heap.size<g.heap.size:=V;refine aJ ?_;refine zt rfl rfl 0 rV (fun Q1 tv=> ?_);go_wp2_with fail;have E:=(afw g).al rV (jC k i t Ax nx cx Ay ny cy);have Zw:(g.alloc (jC k i t Ax nx cx Ay ny cy)).cell? (rN g.heap.size 0)=some (.int .i64 k):=bi;have Zx:(g.alloc (jC k i t Ax nx cx Ay ny cy)).cell? (rN g.heap.size 1)=some (.int .i64 i):=bi;have Zy:(g.alloc (jC k i t Ax nx cx Ay ny cy)).cell? (rN g.heap.size 2)=some (.string t):=bi;have Zz:(g.alloc (jC k i t Ax nx cx Ay ny cy)).cell? (rN g.heap.size 3)=some (.slice Ax nx cx):=bi;have ZA:(g.alloc (jC k i t Ax nx cx Ay ny cy)).cell? (rN g.heap.size 4)=some (.slice Ay ny cy):=bi;have b7:=E.l1;refine tv _ _ (Kb.below (fun b hb=>eE) E) (Kb.below Oz E) ?_;clear tv;have J3:=F.below ve E;have K3:=M.below uz E;have x3:=U.keep (w':=g.alloc (jC k i t Ax nx cx Ay ny cy)) (Y:=B) (fun q hq=>E.cell eA) ug;have f3:=R.trans (E.mono (B':=H) V);have oe3:=(E.block o (Ox o (.inl rfl))).trans T;have be3:=(E.block B1 (Oz B1 rfl)).trans O;have nk3:=b4;generalize g.alloc _=z3 at*;have XA:∀b,(b=o\/b=w.heap.size)->b<z3.heap.size:=fun b hb=>by have:=Ox b hb;omega
   have ZT:∀b,b=B1->b<z3.heap.size:=fun b hb=>by have:=Oz b hb;omega
   have wm3:w.heap.size<z3.heap.size:=V;refine aJ ?_;refine zt rfl rfl 0 rV (fun Q1 tv=> ?_);have xi:=x3.keep (w':=z3) (Y:=fun b=>(S b\/H<=b)/\b<z3.heap.size/\A.map (·.block)≠some b/\¬Bk.map (·.block)=some b) (fun _ _=>rfl) (fun b hb=>⟨(Rr b hb).1,by have:=hX0 b hb;omega,(Rr b hb).2.2.1,b4 b hb⟩);exact lH
  ·go_wp2_with fail;have p:=(afw m).al rV (jC k i t Ax nx cx Ay ny cy);have a2:(m.alloc (jC k i t Ax nx cx Ay ny cy)).cell? (rN m.heap.size 0)=some (.int .i64 k):=bi;have a3:(m.alloc (jC k i t Ax nx cx Ay ny cy)).cell? (rN m.heap.size 1)=some (.int .i64 i):=bi;have a4:(m.alloc (jC k i t Ax nx cx Ay ny cy)).cell? (rN m.heap.size 2)=some (.string t):=bi;have a5:(m.alloc (jC k i t Ax nx cx Ay ny cy)).cell? (rN m.heap.size 3)=some (.slice Ax nx cx):=bi;have a6:(m.alloc (jC k i t Ax nx cx Ay ny cy)).cell? (rN m.heap.size 4)=some (.slice Ay ny cy):=bi;have b6:=p.l1;refine tv _ _ (Kb.below (fun b hb=>eD) p) (Kb.below KI p) ?_;clear tv;have F:=L.below ve p;have M:=W.below uz p;have U:=a1.keep (w':=m.alloc (jC k i t Ax nx cx Ay ny cy)) (Y:=B) (fun q hq=>p.cell eA) ug;have R:=Z.trans (p.mono (B':=H) V);have T:=(p.block o (Mq o (.inl rfl))).trans a0;have O:=(p.block B1 (KI B1 rfl)).trans X;have ck2:=p.cl af V;generalize m.alloc _=g at*;have Ox:∀b,(b=o\/b=w.heap.size)->b<g.heap.size:=fun b hb=>by have:=Mq b hb;omega
   have Oz:∀b,b=B1->b<g.heap.size:=fun b hb=>by have:=KI b hb;omega
   have bd:w.heap.size<g.heap.size:=V;refine aJ ?_;refine zt rfl rfl 0 rV (fun Q1 tv=> ?_);go_wp2_with(at_builtin;go_must(refine wV (z:=.string ⟨#[]⟩) (bytes:=16) (y:=key) (cs:=[sv key]) rfl ub yQ rfl V V uz rfl rfl M rfl (fun b hb=>(F.block b hb).2.1) (fun j u hu=>j9) V V ?_);intro Bk ek z3 K3 a8 r hk3);have C:∀b,(b=o\/b=w.heap.size\/b=B1)->b<g.heap.size/\A'.map (·.block)≠some b:=fun b hb=>⟨eE,fun he=>by have:=Xk b he;omega⟩
   refine tv _ _ (Kb.DZ C r) (Kb.DZ (fun b hb=>C b (.inr (.inr hb))) r) ?_;clear tv;have J3:=F.DZ ve r hk3;have x3:=U.keep (w':=z3) (Y:=B) (fun q hq=>rK (w:=g) (r.2 _ eA (hXK _ hq))) ug;have f3:=R.trans a8;have b7:=r.1;have nk3:∀b,B b->Bk.map (·.block)≠some b:=fun b hb he=>fT
   have oe3:=(r.2 o (C o (.inl rfl)).1 (C o (.inl rfl)).2).trans T;have be3:=(r.2 B1 (C B1 (.inr (.inr rfl))).1 (C B1 (.inr (.inr rfl))).2).trans O;have Zw:=(rK (w:=g) (a:=rN m.heap.size 0) (r.2 _ bl bY)).trans a2;have Zx:=(rK (w:=g) (a:=rN m.heap.size 1) (r.2 _ bl bY)).trans a3;have Zy:=(rK (w:=g) (a:=rN m.heap.size 2) (r.2 _ bl bY)).trans a4;have Zz:=(rK (w:=g) (a:=rN m.heap.size 3) (r.2 _ bl bY)).trans a5;have ZA:=(rK (w:=g) (a:=rN m.heap.size 4) (r.2 _ bl bY)).trans a6;exact pt
 ·go_wp2_with fail;have v:=(afw wd).al rV (jC k i t Ax nx cx Ay ny cy);have br:(wd.alloc (jC k i t Ax nx cx Ay ny cy)).cell? (rN wd.heap.size 0)=some (.int .i64 k):=bi;have bs:(wd.alloc (jC k i t Ax nx cx Ay ny cy)).cell? (rN wd.heap.size 1)=some (.int .i64 i):=bi;have bv:(wd.alloc (jC k i t Ax nx cx Ay ny cy)).cell? (rN wd.heap.size 2)=some (.string t):=bi;have bw:(wd.alloc (jC k i t Ax nx cx Ay ny cy)).cell? (rN wd.heap.size 3)=some (.slice Ax nx cx):=bi;have bx:(wd.alloc (jC k i t Ax nx cx Ay ny cy)).cell? (rN wd.heap.size 4)=some (.slice Ay ny cy):=bi;have c7:=v.l1;refine tv _ _ (Kb.below (fun b hb=>iL) v) (Kb.below Oy v) ?_;clear tv;have L:=aa.below ve v;have W:=ab.below uz v;have a1:=be.keep (w':=wd.alloc (jC k i t Ax nx cx Ay ny cy)) (Y:=B) (fun q hq=>v.cell eA) ug;have Z:=b1.trans (v.mono (B':=H) V);have a0:=(v.block o (RB o (.inl rfl))).trans b5;have X:=(v.block B1 (Oy B1 rfl)).trans ad;generalize wd.alloc _=m at*;have Mq:∀b,(b=o\/b=w.heap.size)->b<m.heap.size:=fun b hb=>by have:=RB b hb;omega
  have KI:∀b,b=B1->b<m.heap.size:=fun b hb=>by have:=Oy b hb;omega
  have cf:w.heap.size<m.heap.size:=V;refine aJ ?_;refine zt rfl rfl 0 rV (fun Q1 tv=> ?_);go_wp2_with fail;have p:=(afw m).al rV (.cells #[.string ⟨key.toArray⟩] 9);have ck2:(m.alloc (.cells #[.string ⟨key.toArray⟩] 9)).cell? (rN m.heap.size 0)=some (.string ⟨key.toArray⟩):=bi;have b6:=p.l1;refine tv _ _ (Kb.below (fun b hb=>eD) p) (Kb.below KI p) ?_;clear tv;have F:=L.below ve p;have M:=W.below uz p;have U:=a1.keep (w':=m.alloc (.cells #[.string ⟨key.toArray⟩] 9)) (Y:=B) (fun q hq=>p.cell eA) ug;have R:=Z.trans (p.mono (B':=H) V);have T:=(p.block o (Mq o (.inl rfl))).trans a0;have O:=(p.block B1 (KI B1 rfl)).trans X;have a2:=p.cl br V;have a3:=p.cl bs V;have a4:=p.cl bv V;have a5:=p.cl bw V;have a6:=p.cl bx V;generalize m.alloc _=g at*;have Ox:∀b,(b=o\/b=w.heap.size)->b<g.heap.size:=fun b hb=>by have:=Mq b hb;omega
  have Oz:∀b,b=B1->b<g.heap.size:=fun b hb=>by have:=KI b hb;omega
  have bd:w.heap.size<g.heap.size:=V;refine aJ ?_;refine zt rfl rfl 0 rV (fun Q1 tv=> ?_);go_wp2_with(at_builtin;go_must(refine wV (z:=.string ⟨#[]⟩) (bytes:=16) (y:=key) (cs:=[sv key]) rfl ub yQ rfl V V uz rfl rfl M rfl (fun b hb=>(F.block b hb).2.1) (fun j u hu=>j9) V V ?_);intro Bk ek z3 K3 a8 r hk3);have C:∀b,(b=o\/b=w.heap.size\/b=B1)->b<g.heap.size/\A'.map (·.block)≠some b:=fun b hb=>⟨eE,fun he=>by have:=Xk b he;omega⟩
  refine tv _ _ (Kb.DZ C r) (Kb.DZ (fun b hb=>C b (.inr (.inr hb))) r) ?_;clear tv;have J3:=F.DZ ve r hk3;have x3:=U.keep (w':=z3) (Y:=B) (fun q hq=>rK (w:=g) (r.2 _ eA (hXK _ hq))) ug;have f3:=R.trans a8;have b7:=r.1;have nk3:∀b,B b->Bk.map (·.block)≠some b:=fun b hb he=>fT
  have oe3:=(r.2 o (C o (.inl rfl)).1 (C o (.inl rfl)).2).trans T;have be3:=(r.2 B1 (C B1 (.inr (.inr rfl))).1 (C B1 (.inr (.inr rfl))).2).trans O;have Zw:=(rK (w:=g) (a:=rN wd.heap.size 0) (r.2 _ bl bY)).trans a2;have Zx:=(rK (w:=g) (a:=rN wd.heap.size 1) (r.2 _ bl bY)).trans a3;have Zy:=(rK (w:=g) (a:=rN wd.heap.size 2) (r.2 _ bl bY)).trans a4;have Zz:=(rK (w:=g) (a:=rN wd.heap.size 3) (r.2 _ bl bY)).trans a5;have ZA:=(rK (w:=g) (a:=rN wd.heap.size 4) (r.2 _ bl bY)).trans a6;exact pt
