import Derived.Test.YtccjlcadbpinfaaGreatDoorX16
set_option linter.all false
set_option maxRecDepth 100000
set_option maxHeartbeats 16000000
namespace Go.Proofs.YtccjlcadbpinfaaGreatDoor.Tp
open ChangeShapes WideShapes ChangeAt RowKit
open Num Mem Can
structure As(w:World)(g h B0:Nat)(A:aft)(n c:Nat)(root:Int)(S:List Nd)(X:afu)(st:Sh):Prop where
 c0:w.cell? (rN g 0)=some (.slice A n c)
 c1:w.cell? (rN g 1)=some (.int .i64 root)
 c2:w.cell? (rN g 2)=some (.slice (some ⟨h,0,none⟩) n n)
 c3:w.cell? (rN g 3)=some (.bool st.2)
 fz:∀j,w.frozen? (rN g j)=false
 mt:Mt w h st.1
 ml:st.1.length=n
 row:tJ w X A n S
 Dj:∀b,X b->b<B0/\b≠g/\b≠h
 zL:uI w
 at_:2<=g/\2<=h/\g≠h/\g<B0/\h<B0/\B0<=w.heap.size
 le:n<=100000000
section
variable(S:List Nd)(F:Nat)(f:Fd)(o:Bool){w w1 w':World}{r:Nat}{x:Nd}{g h k q b d B H n c n' c':Nat}
def As.keep{A:aft}{n c:Nat}{root:Int}{S:List Nd}{X:afu}{st:Sh}(a:As w g h k A n c root S X st)(C:w.heap.size<=w'.heap.size)(hb:∀b,b<k->w'.heap[b]? =w.heap[b]?):As w' g h k A n c root S X st:=by
 have r:=hb g a.at_.2.2.2.1;have t:=hb h a.at_.2.2.2.2.1;have d:∀p:Addr,p.block<k->w'.cell? p=w.cell? p:=fun p y=>rK (w:=w) (hb _ y)
 have o:=a.at_.2.2.2.1;have e:=a.at_;obtain⟨⟨m,x⟩,B⟩:=a.zL;exact⟨(d ⟨g,0,none⟩ o).trans a.c0,(d ⟨g,1,none⟩ o).trans a.c1,(d ⟨g,2,none⟩ o).trans a.c2,(d ⟨g,3,none⟩ o).trans a.c3,fun j=>(sP (w:=w) (a:=rN g j) r).trans (a.fz j),a.mt.keep t,a.ml,a.row.keep (fun q z=>d q (a.Dj _ z).1) ug,a.Dj,⟨⟨m,(d ⟨1,0,none⟩ bl).trans x⟩,fun i l v=>(d ⟨0,i,none⟩ bl).trans (B i l v)⟩,⟨e.1,e.2.1,e.2.2.1,e.2.2.2.1,e.2.2.2.2.1,V⟩,a.le⟩
def As.below{A:aft}{n c:Nat}{root:Int}{S:List Nd}{X:afu}{st:Sh}(a:As w g h d A n c root S X st)(hb:Below B w w')(e:d<=B):As w' g h d A n c root S X st:=a.keep hb.size (fun b h=>hb.block b V)
def As.Zb{A:aft}{n c:Nat}{root:Int}{S:List Nd}{X:afu}{st:Sh}(a:As w g h d A n c root S X st)(v:Bool):As (w.setCell ⟨g,3,none⟩ (.bool v)) g h d A n c root S X (st.1,v):=by obtain⟨c0,c1,c2,m,fz,l,k,row,b,zL,at_,le⟩:=a;have i:sN g h d w (w.setCell ⟨g,3,none⟩ (.bool v)):=sN.Fu 3 _;have o:¬g=h:=at_.2.2.1;refine⟨bi,bi,bi,bi,fun j=>by have:=fz j;go_simp,l.keep (((sa.refl g w.heap.size w).setAt 3 _).block h V (Ak at_.2.2.1)),k,row.keep (fun q e=>i.cell (b _ e).1 (b _ e).2.1 (b _ e).2.2) ug,b,zL.Cm i V,⟨at_.1,at_.2.1,at_.2.2.1,at_.2.2.2.1,at_.2.2.2.2.1,by simpa using at_.2.2.2.2.2⟩,le⟩
def As.meet{A:aft}{n c:Nat}{root:Int}{S:List Nd}{X:afu}{st:Sh}(a:As w g h d A n c root S X st){j:Nat}(l:j<n):As (w.setCell ⟨h,j,none⟩ (.bool true)) g h d A n c root S X (st.1.set j true,st.2):=by obtain⟨c0,c1,c2,o,fz,m,k,row,b,zL,at_,le⟩:=a;have i:sN g h d w (w.setCell ⟨h,j,none⟩ (.bool true)):=sN.IW j _;have p:¬h=g:=Ak at_.2.2.1;refine⟨bi,bi,bi,bi,fun j=>by have:=fz j;go_simp,m.set (by rw[k];exact l) true,by rw[uB];exact k,row.keep (fun q e=>i.cell (b _ e).1 (b _ e).2.1 (b _ e).2.2) ug,b,zL.Cm i V,⟨at_.1,at_.2.1,at_.2.2.1,at_.2.2.2.1,at_.2.2.2.2.1,by simpa using at_.2.2.2.2.2⟩,le⟩
def ShP(w:World)(g h p:Nat)(A:aft)(n c:Nat)(root:Int)(S:List Nd)(X:afu)(r:J×Sh)(e:Ending)(w':World):Prop:=∃(k i:Int)(t:ByteArray)(a:aft)(m j:Nat)(d:aft)(o l:Nat),e=.returned (jA k i t a m j d o l)/\uq w' (fun b=>X b\/(w.heap.size<=b/\b<w'.heap.size)) (jv k i t a m j d o l) r.1/\As w' g h p A n c root S X r.2/\sN g h w.heap.size w w'
def ShL(S:List Nd)(d:Nat->Sh->J×Sh)(k:Int)(b a:Nat):Prop:=b<=a/\(0<=k/\k<(a:Int))/\∀st:Sh,Met S b st.1->Met S a (d k.toNat st).2.1
def TC(S:List Nd)(F:Nat)(k:Int)(b d:Nat):Prop:=(∀ar,ShL S (xS S F ar) k b d)/\∀(ar:afs)(st:Sh),ar.length<=1000->Met S b st.1->∀(w:World)(g h a:Nat)(A:aft)(n c:Nat)(root:Int)(X:afu),As w g h a A n c root S X st->Calls Tryz.prog 59 #[sg g,.int .i64 k,.string ⟨ar.toArray⟩] w (ShP w g h a A n c root S X (xS S F ar k.toNat st))
def wm.AA{b:aft}{l c1:Nat}{d:aft}{m c2:Nat}{e:aft}{o i:Nat}{h:aft}{p k:Nat}(a:wm w r x b l c1 d m c2 e o i h p k)(hb:w'.heap[r]? =w.heap[r]?):wm w' r x b l c1 d m c2 e o i h p k:=a.keep (fun j=>rK (w:=w) (a:=rN r j) hb) (fun j=>sP (w:=w) (a:=rN r j) hb)
def vW.AA{k i:Int}{t:ByteArray}{A:aft}{n c:Nat}{A':aft}{n' c':Nat}(a:vW w r k i t A n c A' n' c')(hb:w'.heap[r]? =w.heap[r]?):vW w' r k i t A n c A' n' c':=a.keep (fun j=>rK (w:=w) (a:=rN r j) hb) (fun j=>sP (w:=w) (a:=rN r j) hb)
def Obj.len{S:afu}{ks:List afs}{l:List J}{A A':aft}(a:Obj w b d H S ks l A n c A' n' c'):l.length=n/\ks.length=n':=⟨a.2.2.1.len V,a.2.2.2.1.len V⟩
def Obj.item{S Y:afu}{ks:List afs}{l:List J}{A A':aft}{cs:List Value}{x:J}(a:Obj w1 k q H S ks l A n c A' n' c')(p:uq w Y cs x)(d:∀b,Y b->b<w.heap.size/\(S b\/w1.heap.size<=b)):uq w (fun b=>(S b\/H<=b)/\b<w.heap.size/\A.map (·.block)≠some b/\A'.map (·.block)≠some b) cs x:=by
 have m:=a.2.2.1.block;have o:=a.2.2.2.1.block;have r:=a.2.2.2.2.1;have j:=a.2.2.2.2.2;refine p.keep (fun _ _=>rfl) (fun b hb=>⟨?_,(d b hb).1,fun i=> ?_,fun i=> ?_⟩)
 ·rcases(d b hb).2 with h|h;·exact .inl h
  ·exact .inr V
 ·have e:=m b i;rcases(d b hb).2 with h|h;·have:=j b h;omega
  ·omega
 ·have e:=o b i;rcases(d b hb).2 with h|h;·have:=j b h;omega
  ·omega
def JB{a:Type}(x:a):opt false x=[]:=rfl
def Vb{e:Type}(a b c d:Bool)(x y z u:e):([]++opt a x++opt b y++opt c z++opt d u).length<=4:=by cases a<;>cases b<;>cases c<;>cases d<;>simp[opt]
def vA(key:afs)(x:J)(k i:Int)(t:ByteArray)(e:aft)(p j:Nat)(h:aft)(q m:Nat)(w:World)(d r H:Nat)(S:afu)(ks:List afs)(l:List J)(A:aft)(n c:Nat)(A':aft)(n' c':Nat)(a:Obj w d r H S ks l A n c A' n' c')(z:uq w (fun b=>(S b\/H<=b)/\b<w.heap.size/\A.map (·.block)≠some b/\A'.map (·.block)≠some b) (jv k i t e p j h q m) x)(y:l.length<=1000)(v:ks.length<=1000):Calls Tryz.prog 172 #[.bool o,.string ⟨key.toArray⟩,jA k i t e p j h q m,sg d] w (Zj w d r H S (ks++opt o key) (l++opt o x)):=by
 cases o with
 |true=>exact Vg key x k i t e p j h q m w d r H S ks l A n c A' n' c' a z y v
 |false=>have:=XV key k i t e p j h q m w d r H S ks l A n c A' n' c' a;rw[JB,JB,sX,sX];exact this
def Pc(ar:afs)(bp es:Nat)(eb:TC S F f.type bp es)(st:Sh)(ds:ar.length<=1000)(ec:Met S bp st.1)(z:aft)(j D:Nat)(k i:Int)(t:ByteArray)(B:aft)(m d:Nat)(B':aft)(G C:Nat)(w:World)(g h W:Nat)(A:aft)(n c:Nat)(root:Int)(X:afu)(hS:As w g h W A n c root S X st)(dx:DB w X (fL f z j D k i t B m d B' G C) f)(dp:j<=1000000):Calls Tryz.prog 171 #[sg g,.agg #[.string ⟨f.name.toArray⟩,.slice z j D,.int .i64 f.type,.bool f.has,.int .i64 k,.int .i64 i,.string t,.slice B m d,.slice B' G C],.string ⟨ar.toArray⟩] w (ShP w g h W A n c root S X (EM (xS S F ar) f st)):=by
 have d9:=hS.at_.2.2.2.2.2;have hX:∀b,X b->b<w.heap.size:=fun b hb=>iy
 have R:=((afw w).al rV (fC f z j D k i t B m d B' G C)).alloc bA (jZ);have bx:=(Cy.new w f z j D k i t B m d B' G C w.heap.size rfl).below (xn.al rV (jZ)) bA;have cp:=vW.new (w.alloc (fC f z j D k i t B m d B' G C)) 0 0 ⟨#[]⟩ none 0 0 none 0 0 (w.heap.size+1) bA;have bk:=R.s2;obtain⟨cE,I⟩:=sW (EM (xS S F ar) f st);rw[<-I];have c5:=rz I;clear I;go_enter Tryz.func171,Tryz.ntmps171;go_upto_region 1 with fail;generalize(w.alloc _).alloc _=w1 at*;have f5:=rz bk;have ft:w.heap.size+2<=w1.heap.size:=V;clear bk;have S1:=hS.below R d9;have c6:sN g h w.heap.size w w1:=sN.below R;have dz:=dx.keep (w':=w1) (Y:=X) (fun q hq=>R.cell (hX _ hq)) ug;go_wp2_with fail;refine(Cl w1).mono ?_;rintro e' l an;have dd:=an.1;subst dd;have b4:=Obj.new an X bq;obtain⟨_,bn,_,_,K⟩:=an;have fx:l.heap.size<=w1.heap.size+2:=V;have fE:w1.heap.size+2<=l.heap.size:=V;have f6:=rz bn;clear bn;have cS:=S1.below K V;have c7:=c6.trans (sN.below (K.mono V));have b1:=bx.below K V;have cr:=cp.below K V;have e0:=dz.keep (w':=l) (Y:=X) (fun q hq=>K.cell bM) ug;have fj:g<w.heap.size/\h<w.heap.size:=kw;have be:¬X g/\¬X h:=⟨fun az=>(hS.Dj g az).2.1 rfl,fun az=>(hS.Dj h az).2.2 rfl⟩;have df:=b1;obtain⟨a3,O,a4,a5,a6,a7,a8,a9,aa⟩:=df;go_wp2_with fail;refine sG (yd f.name l) fun H o=> ?_
 have b5:=b4.below o;have fS:l.heap.size<=H.heap.size:=o.size;have eg:=Obj.item (w:=H) b4 (ya H (fun _=>False) f.name) (fun b hb=>hb.elim);have bz:=b1.below o V;have cs:=cr.below o V;have cW:=cS.below o V;have c8:=c7.trans (sN.below (o.mono V));have e1:=e0.keep (w':=H) (Y:=X) (fun q hq=>o.cell bM) ug;have h1:=o.size;have en:=b5.len;have af:=eg;go_wp2_with fail;refine sG (vA true vi (jT f.name) 4 0 ⟨f.name.toArray⟩ none 0 0 none 0 0 H (w1.heap.size+1) w1.heap.size l.heap.size X ([]) ([]) _ _ _ _ _ _ b5 af bA bA) fun aU ⟨⟨f7,g9,gi,f8,ga,gk,Z⟩,y⟩=> ?_
 have e:Below w1.heap.size H aU:=y.below V rV;have b2:=bz.below e V;have ct:=cs.below e V;have a2:=cW.below e V;have c9:=c8.trans (sN.below (e.mono V));have e2:=e1.keep (w':=aU) (Y:=X) (fun q hq=>e.cell bM) ug;have h2:=e.size;have ab:=b2;obtain⟨a3,O,a4,a5,a6,a7,a8,a9,aa⟩:=ab;go_wp2_with fail;refine(eb.2 ar st ds ec aU g h W A n c root X a2).mono ?_;rintro e' T ⟨el,ed,f3,br,et,d4,bv,f1,d6,rfl,e5,cZ,E⟩;have g1:=E.size;have fl:=Z.2.2.2.2;have b6:=Z.Cm E ⟨V,V,V,be.1⟩ ⟨V,V,V,be.2⟩;have eh:=Obj.item (w:=T) Z e5 (fun b hb=>⟨gB,gO⟩);have bO:=Cy.AA b2 (E.block w.heap.size V V V);have cv:=ct.AA (E.block (w.heap.size+1) V V V);have cb:=c9.trans (E.mono V);have e3:=e2.keep (w':=T) (Y:=X) (fun q hq=>E.cell bM (a2.Dj _ hq).2.1 (a2.Dj _ hq).2.2) ug;have en:=b6.len;have af:=eh;go_wp2_with fail;refine sG (vA true tC ((xS S F ar f.type.toNat st).1) el ed f3 br et d4 bv f1 d6 T (w1.heap.size+1) w1.heap.size l.heap.size X ([]++opt true vi) ([]++opt true (jT f.name)) _ _ _ _ _ _ b6 af fe fe) fun b0 ⟨⟨f9,gb,gl,fb,gc,gn,ci⟩,y⟩=> ?_
 have e:Below w1.heap.size T b0:=y.below V rV;have b3:=bO.below e V;have cx:=cv.below e V;have d0:=cZ.below e V;have cc:=cb.trans (sN.below (e.mono V));have e4:=e3.keep (w':=b0) (Y:=X) (fun q hq=>e.cell bM) ug;have h3:=e.size;have ab:=b3;obtain⟨a3,O,a4,a5,a6,a7,a8,a9,aa⟩:=ab;obtain⟨b9,fi,_,e6⟩:=e4.inv;have di:=rz (show f.aliases.length=j by have:=b9.len;exact db);go_upto_region 4 with fail;refine sT [0,1,2,3,4,5,6,7,8] [7,8] bm bm bA bm bt (fun wd x tj=> ?_);have d8:=x.cl O V;have Fd:=b3.below x V;have cR:=cx.below x V;have d3:=d0.below x V;have cj:=cc.trans (sN.below (x.mono V));have b8:=ci.below x;have dj:=Row.below b9 x bq;have e8:=e6.keep (w':=wd) (Y:=X) (fun q hq=>x.cell bM) ug;have g0:b0.heap.size<=wd.heap.size:=V;repeat((first|(refine tm rfl rfl rfl bo ?_)|(refine tB rfl rfl rfl ?_)|(refine tH rfl rfl rfl (w1.heap.size) V _ (by intro w' hb;have h0:=(hb.cell (p:=rN w.heap.size 1) bl).trans d8;clear hb;go_simp;first|done|with_reducible rfl) ?_));simp only[Act.put,rH,rC,rF])
 refine tc rfl rfl w1.heap.size V (fun ck ad=> ?_);go_wp2_with fail;refine(FC f.aliases wd X z j D dj bq dp).mono ?_;rintro e' U ⟨em,ef,f4,bs,f0,d5,bw,f2,d7,rfl,e7,v⟩;go_wp2_with fail;refine ad _ _ (v.mono V) ?_;have g2:=v.size;have b7:=b8.below v;have ei:=Obj.item (w:=U) b8 e7 (fun b hb=>⟨hb.2,.inr hb.1⟩);have c3:=Fd.below v V;have cy:=cR.below v V;have d1:=d3.below v V;have cf:=cj.trans (sN.below (v.mono V));have e9:=e8.keep (w':=U) (Y:=X) (fun q hq=>v.cell bM) ug;refine aL ?_;refine tc rfl rfl w1.heap.size V (fun ck ad=> ?_);have fm:=b7.len;go_wp2_with fail;refine sG (vA _ tz (BY f.aliases) em ef f4 bs f0 d5 bw f2 d7 U (w1.heap.size+1) w1.heap.size l.heap.size X _ _ _ _ _ _ _ _ b7 ei fe fe) fun M ⟨⟨fc,gd,go,ff,gf,gr,a0⟩,y⟩=> ?_
 have e:Below w1.heap.size U M:=y.below V rV;have c4:=c3.below e V;have cz:=cy.below e V;have d2:=d1.below e V;have ch:=cf.trans (sN.below (e.mono V));have ea:=e9.keep (w':=M) (Y:=X) (fun q hq=>e.cell bM) ug;have h4:=e.size;go_wp2_with fail;refine ad _ _ e ?_;refine aL ?_;refine sQ ?_;obtain⟨a3,O,a4,a5,a6,a7,a8,a9,aa⟩:=c4;have fn:=a0.len;have ek:=Obj.item (w:=M) a0 ea (fun b hb=>⟨bC,.inl hb⟩);go_wp2_with fail;refine sG (vA f.has sS f.sL k i t B m d B' G C M (w1.heap.size+1) w1.heap.size l.heap.size X _ _ _ _ _ _ _ _ a0 ek (by simp[opt];split<;>simp) (by simp[opt];split<;>simp)) fun N ⟨⟨Q9,q9,r9,Q9',q9',r9',a1⟩,y⟩=> ?_
 have e:Below w1.heap.size M N:=y.below V rV;have cA:=cz.below e V;have S9:=d2.below e V;have O9:=ch.trans (sN.below (e.mono V));have h5:=e.size;have bj:=a1.len;have Ow:=a1.isJ (by rw[<-bj.1];exact mG) (by rw[<-bj.2];exact mG);obtain⟨_,⟨⟨g3,g4,g5,g6,g7⟩,g8⟩,_,_,_,_⟩:=a1;obtain⟨⟨gs,gx,gz,gA,gR⟩,gW⟩:=cA;go_wp2_with fail;refine sc (uX (k:=6) (i:=0) (t:=⟨#[]⟩) (A:=Q9) (n:=q9) (c:=r9) (A':=Q9') (n':=q9') (c':=r9') rfl rfl ⟨bi,bi,bi,bi,bi⟩) rfl ?_;have dr:decide (0<j)=tK f.aliases:=by
  have:f.aliases.length=j:=by exact di.out
  unfold tK;cases bd:f.aliases with
  |nil=>rw[bd]at this;simp at this;subst this;rfl
  |cons a r=>rw[bd]at this;simp at this;simp;omega
 have I:cE=(jO ([vi,tC]++opt (tK f.aliases) tz++opt f.has sS) ([jT f.name,(xS S F ar f.type.toNat st).1]++opt (tK f.aliases) (BY f.aliases)++opt f.has f.sL),(xS S F ar f.type.toNat st).2):=c5.out;rw[I];have yG:sa (w.heap.size+1) N.heap.size N (((((N.setCell ⟨w.heap.size+1,0,none⟩ (.int .i64 6)).setCell ⟨w.heap.size+1,1,none⟩ (.int .i64 0)).setCell ⟨w.heap.size+1,2,none⟩ (.string ⟨#[]⟩)).setCell ⟨w.heap.size+1,3,none⟩ (.slice Q9 q9 r9)).setCell ⟨w.heap.size+1,4,none⟩ (.slice Q9' q9' r9')):=(((((sa.refl _ _ _).setAt 0 _).setAt 1 _).setAt 2 _).setAt 3 _).setAt 4 _;have ze:Below (w.heap.size+1) N _:=yG.below V rV;rw[<-dr];exact pD
def Z3:(Tryz.prog.info? 3).map (fun i=>(i.zero,i.size,i.bytes))=some (some (.int .i64 0),1,8):=bm
def Pt(a:List Int):Nd:={CH with kind:=13,rX:=a}
end
section
variable{w:World}{g n c:Nat}{own:Nat->Option Nat}{L:afu}{A:aft}{S:List Nd}{er:Int}
def N6(F:Nat)(d7:GU F)(l:List J)(dz:∀x∈l,SizeOf.sizeOf x<F/\tS x)(ar:afs)(fi:ar.length<=100000000)(a:wx w g own L A n c S er)(X:afu)(B:aft)(m d:Nat)(ch:List (List Value))(r1:Row w X 5 B m ch)(r2:ch.length=l.length)(eb:∀(i:Nat)(h:i<ch.length)(h1:i<l.length),uq w X ch[i] l[i])(a3:∀b,X b->b<g)(h8:m<=100000000):Calls Tryz.prog 109 #[sg g,.slice B m d,.string ⟨ar.toArray⟩] w (WO w g own L S (Bl (fun j=>uf F j ar) l (S.map td) er)):=by
 have HL:=rz (show l.length=m from jr);obtain⟨b5,cj⟩:=sW (sM (decide (m<1)||decide (10<m)) 34 er);obtain⟨D,hE⟩:=sW (sM (decide (200<=n)) 3 b5);obtain⟨b4,d5⟩:=sW (L4 (fun j=>uf F j ar) (S.map td++[(13,[])]) l [] [] 0);have Kv:=a.len;have h7:=a.r.lt;have G:Bl (fun j=>uf F j ar) l (S.map td) er=if D=0 then(b4.1,Pt b4.2.1::b4.2.2.1,b4.2.2.2)else(0,[],D):=by unfold Bl;rw[tN,Kv,HL.out,d5,hE,cj];rfl
 have O:wi (Pt []) (S.map td) b5=if D=0 then((n:Int),[Pt []],0)else(0,[],D):=iF;have e1:D=0->m<=10:=fun h=>by rw[hE]at h;have af:=(xD bH h).2;rw[cj]at af;have d4:=(xD bH af).1;simp at d4;omega
 obtain⟨gz,I⟩:=sW (Bl (fun j=>uf F j ar) l (S.map td) er);rw[<-I];rw[G]at I;have b7:=rz I;clear G I hE;have az:∀b,b=(decide (m<1)||decide (10<m))->Calls Tryz.prog 56 #[sg g,.bool b,.int .i64 34] w fun D w'=>D=.returned (.tuple #[])/\Cx w g A n c b5 w':=fun b hb=>by rw[cj,<-hb];exact ta a.cl b 34
 have b6:=rz az;clear az cj;have d0:=rz d5;clear d5;go_enter Tryz.func109,Tryz.ntmps109;have key:∀P:Prop,((m:Int)<1->P)->(¬(m:Int)<1->P)->P:=fun P af d4=>
  by
   by_cases h:(m:Int)<1;·exact af h
   ·exact d4 h
 go_upto_region 1 with fail;go_cut [] (fun eg=>Cx w g A n c b5 eg);case
  first
   =>
    clear d7 dz r1 r2 eb b7 d0 O e1;refine key _ (fun af=> ?_) (fun af=> ?_)
    ·have dd:=b6.out true (by rw[rY (by omega:m<1)];rfl);clear b6 key;go_wp2_with fail;refine sG dd fun gs C=> ?_
     go_wp2_with fail;go_meet;exact C
    ·have dd:=b6.out (decide ((10:Int)<(m:Int))) (by rw[rI (by omega:¬m<1),uA];by_cases h:10<m<;>simp[h];all_goals omega);clear b6 key;go_wp2_with fail;refine sG dd fun gs C=> ?_
     go_wp2_with fail;go_meet;exact C
 case
  rest=>
   obtain⟨eg,gn⟩:=sW wc;subst gn;clear b6 key;have C:=hcut;clear hcut;have f4:=C.st a;have em:=a.yM C.2;have df:=zl (Pt []) none 0 0 none 0 0 eg g own L A n c S b5 f4 ⟨Row.nil _ _ _ _,Row.nil _ _ _ _,rZ _,rZ _,V,V⟩ rfl rfl;rw[O]at df;clear O;go_wp2_with fail;refine Calls.mono (show Calls _ _ _ _ _ from df) ?_;rintro e' gx ⟨e4,cE,e3,d2,rfl,H,en⟩;have a7:=em.trans en;clear df C f4 em en;by_cases a1:D=0
   ·have an:=b7.out;rw[rG a1]at an H;rw[rG a1];clear b7;have c5:=rz an;clear an;simp only at H|-;have e1:=e1 a1;go_wp2_with fail;go_loopw [26] (fun a9 wr=>∃(q:Nat)(t:List Int)(new:List Nd)(e:Int)(bw:Nat->Option Nat)(c4:aft)(a6 c1:Nat),a9=.int .i64 q/\q<=m/\b4=L4 (fun j=>uf F j ar) (S.map td++[(13,[])]) (l.drop q) t new e/\wx wr g bw L c4 a6 c1 (S++Pt t::new) e/\D2 w wr g own bw/\t.length=q/\∀R∈t,0<=R/\R<(a6:Int)) (fun a9 _=>m-(intOf a9).toNat);case atStart=>exact⟨0,[],[],0,e4,cE,e3,d2,rfl,sb _,d0.out,H,a7,rfl,fun _ h=>dM⟩
    case
     round=>
      obtain⟨q,t,new,e,bw,c4,a6,c1,rfl,hd,hb,aa,b8,fj,fl⟩:=hrel;have v:=rz hb;clear hb d0 H a7;have e0:=aa.len;have h9:n<a6:=by rw[<-e0];simp[Kv]<;>omega
      by_cases cr:q<m
      ·have g0:(q:Int)<(m:Int):=V;obtain⟨W,p,y,bv,bs,bO,b2,bx,bj,C,bz,bk,rfl,dj,hy,cp,U,G,O,N,ad⟩:=zr r1 r2 eb cr;have di:=a3 W dj;have o:∀j,wr.cell? (rN W j)=w.cell? (rN W j):=fun j=>rK (w:=w) (a:=rN W j) (b8.EL a di)
       have e6:=(o (p+q*5)).trans U;have e7:=(o (p+q*5+1)).trans G;have e8:=(o (p+q*5+2)).trans O;have e9:=(o (p+q*5+3)).trans N;have ea:=(o (p+q*5+4)).trans ad;clear U G O N ad o;have br:=b8.js a cp a3;have XB:q<l.length:=by rw[HL.out];exact cr
       have e2:l[q]=y:=gp;have a5:=dz y (e2▸sj XB);have ft:l.drop q=y::l.drop (q+1):=by rw[rM XB,e2]
       have hb:=v.out;rw[ft,L4]at hb;clear cp hy e2 ft v;have v:=rz hb;clear hb;have M:=(afw wr).al rV (jc bv bs bO b2 bx bj C bz bk);have be:=M.yg;go_upto_region 6 with fail;generalize wr.alloc _=ec at*;have c8:=aa.below M;have c6:=b8.trans (aa.yM (sa.of M));have cv:=br.stay M (fun b hb=>by have:=a3 b hb;have:=aa.r.lt;omega);have a4:=d7 y a5.1 a5.2 ar fi ec g bw L c4 a6 c1 _ e X bv bs bO b2 bx bj C bz bk c8 cv a3;have N:(S++Pt t::new).map td=S.map td++[(13,[])]++new.map td:=by simp[Pt,td,CH]
       rw[N]at a4;obtain⟨E,ck⟩:=sW (uf F y ar (S.map td++[(13,[])]++new.map td) e);have dp:E.2.2=0->0<=E.1/\E.1<(a6:Int)+E.2.1.length:=by obtain⟨cS,rfl⟩:∃cS,F=cS+1:=⟨F-1,by have:=a5.1;omega⟩;intro h;have:=XQ cS y ar (S.map td++[(13,[])]++new.map td) e (by rw[<-ck];exact h);rw[<-ck]at this;rw[<-N,tN,e0]at this;exact this
       have hb:=v.out;rw[<-ck]at hb a4;have v:=rz hb;have h0:=rz N;obtain⟨cz,cA,eh,ei,ek, -⟩:=be.xe;clear hb ck br e6 e7 e8 e9 ea N a5 M aa b8 be;go_wp2_with fail;refine a4.mono ?_;rintro e' ed ⟨e5,cR,Z,cc,rfl,r,c7⟩;have cW:=c6.trans c7;clear a4 cz cA eh ei ek c8 c6 c7 cv;rw[sw,si]at r;have gk:=r.len;have ha:a6+E.2.1.length=Z:=by rw[<-gk,<-e0];simp<;>omega
       have cf:=r.cl.c2;by_cases b1:E.2.2=0
       ·have hb:=v.out;rw[rG b1]at hb;obtain⟨dr,gi⟩:=dp b1;rw[b1]at cf r;have ds:E.1<(Z:Int):=V;have fm:∀R∈t,0<=R/\R<(Z:Int):=fun R o=>⟨(fl R o).1,by have:=(fl R o).2;omega⟩
        clear v dp;have ci:S.map td++[(13,[])]++(new++E.2.1).map td=(S++Pt t::(new++E.2.1)).map td:=by simp[Pt,td,CH]
        rw[ci]at hb;have v:=rz hb;clear hb ci;obtain⟨K,ff⟩:=sW E.1;rw[<-ff]at dr ds v|-;clear ff gi;generalize new++E.2.1=cx at*;have fE:n<Z:=V;have hc:(n:Int)<(Z:Int):=V;obtain⟨T,gW,ho,gA,hg,hj,gR,hh,hk,V3,hi,hl,f7,c3,gr,xe⟩:=r.r.at_ fE;have ct:=xe.hx;rw[<-Kv,Gx]at ct;injection ct with ct;subst ct;have d3:=xe.cell 9 _ rfl;have ga:=xe.hA;have h4:=xe.hG;subst ga;have fn:=(Row.xg xe.hb.1 (by simp[xZ]) V).keep (Y:=fun b=>b<ed.heap.size) (fun _ _=>rfl) (fun b hb=>hb.2.1);have d9:=LX (m:=c3) (d:=gr) t K r (fun b=>b<ed.heap.size) f7 fn ug xe.hb.2.2 ⟨dr,ds⟩ fm;obtain⟨f6,d8⟩:=sW (AS ((S++Pt t::cx).map td) t K);rw[<-d8]at d9;have el:=rz (d8▸v.out);clear v d8 fn;have g7:=r.cl.c0;go_wp2_with fail;refine sG d9 fun hm bn=> ?_
        clear d9 d3 g7 cf;have b9:=r.below bn;have es:=cW.trans (r.yM (sa.of bn));have xw:=xe.keep r.r bn.size (fun b hb _=>bn.block b hb);have az:=ta b9.cl (!f6) 34;obtain⟨g4,d6⟩:=sW (sM (!f6) 34 0);rw[<-d6]at az;have g5:=rz (d6▸el.out);clear d6 el r cW xe bn;go_wp2_with fail;refine sG az fun hn b3=> ?_
        clear az;have c9:=b3.st b9;have et:=es.trans (b9.yM b3.2);have d1:=xw.keep b9.r b3.2.size (fun b hb gf=>b3.2.block b hb gf);clear b3 b9 es xw;have gb:=d1.hG;go_upto_region 10 with fail;refine vO (K:=Kb (fun b=>b=g\/b=T)) (Kb.keeps _) (sA.of [0,1,2,3,4,5,6,7,8,9,10,11,12,13,14,15,16,17,18,19] .nil) 20 (sA.of [] .nil) [16,17] [4,10,14] bm bm bF bm bt (fun wd bp tj=> ?_);have bd:=c9.below bp;have f1:=et.trans (c9.yM (sa.of bp));have cb:=d1.keep c9.r bp.size (fun b hb _=>bp.block b hb);clear c9 et d1 bp tj gb;have f8:=bd.cl.c0;have f9:=cb.cell 9 _ rfl;have gc:=cb.hG;repeat((first|(refine wM rfl rfl rfl rfl bo ?_)|(refine wO rfl rfl rfl rfl ?_)|(refine wN rfl rfl rfl rfl 0 rV _ (by intro w' hb;have cz:=(Kb.cell hb (q:=rN g 0) (by simp)).trans f8;have cA:=(Kb.cell hb (q:=rN T (n*10+9)) (by simp)).trans f9;clear hb;go_simp;first|done|with_reducible rfl) ?_));simp only[Act.put,rH,rC,rF])
        refine uC rfl rfl 0 rV (fun f2 a2=> ?_);go_wp2_with fail;have ab:=(afw wd).al rV (.cells #[.int .i64 K] 3);have g2:=(Bx.new wd #[.int .i64 K] 3 wd.heap.size rfl).c 0 _ rfl;refine a2 _ _ (Kb.below bP ab) ?_;clear a2;have a8:=bd.below ab;have f0:=f1.trans (bd.yM (sa.of ab));have a0:=cb.keep bd.r ab.size (fun b hb _=>ab.block b hb);clear bd f1 cb ab gc f8 f9;generalize wd.alloc _=ef at*;have h6:=a8.r.lt;have h5:=a0.hG;have gl:c3=q:=by have h:=(Row.xg a0.hb.1 (by simp[xZ]) V).len;exact(show c3=(Pt t).rX.length by simpa[xZ]using h.symm).trans fj
        subst gl;refine aK ?_;refine uC rfl rfl 0 rV (fun f2 a2=> ?_);go_wp2_with(at_builtin;go_must(refine Dd (z:=.int .i64 0) (bytes:=8) (cs:=[.int .i64 K]) rfl ud Z3 rfl V V rfl rfl a0.hb.1 rfl dq (fun j u g1=>by rcases j with _|j<;>simp at g1;subst g1;exact g2) V V ?_);intro g3 d3 cy fS aU fc);have b0:∀b,b=g\/b=T->b<ef.heap.size/\f7.map (·.block)≠some b:=fun b hb=>
         ⟨V,fun gd=>
          by
           have G:=a0.hb.2.1;rw[gd]at G;rcases hb with h|h;·have:=(a8.r.Fs _ b G.symm).1;omega
           ·have U:=a8.r.hd;simp only[xm]at U;have:=a8.r.inj _ 0 b G.symm (by rw[h];exact U.symm);omega⟩
        refine a2 _ _ (Kb.DZ b0 aU) ?_;clear a2;obtain⟨go,f3,cZ⟩:=a8.r.branch a0 fE fS aU fc V;have fx:=aU.2 g (b0 g (.inl rfl)).1 (b0 g (.inl rfl)).2;have dx:=aU.2 T (b0 T (.inr rfl)).1 (b0 T (.inr rfl)).2;have f5:=a8.ofR f3 cZ ((((sa.refl T cy.heap.size cy).setAt (n*10+9) (.slice g3 (c3+1) d3)).block g (by have:=aU.1;omega) V).trans fx);have g9:=fun j=>(sP (w:=ef) (w':=cy) (a:=rN T j) dx).trans (a0.fz j)
        have g8:=(rK (w:=ef) (w':=cy) (a:=rN T (n*10+9)) dx).trans (a0.cell 9 _ rfl);have g6:=f0.trans cZ;clear b0 fx f3 cZ fS aU fc g2 f0 a0 a8;refine aK ?_;refine Az rfl (fun f2 a2=> ?_);go_wp2_with fail;refine a2 _ _ trivial ?_;clear a2;refine sF ?_;have fb:(S++Pt t::cx).set n {Pt t with rX:=(Pt t).rX++[K]}=S++Pt (t++[K])::cx:=by rw[<-Kv,KQ];rfl
        rw[fb]at f5;clear fb g9 g8 dx;go_wp2_with fail;refine⟨⟨c3+1,t++[K],cx,g4,go,_,Z,cc,bA,V,g5.out,f5,g6,by simp[fj],fun R o=> ?_⟩,?_⟩
        ·rcases sI.1 o with h|h;·exact fm R h
         ·rw[sJ]at h;rw[h];exact⟨dr,ds⟩
        ·exact bN
       ·have hb:=v.out;rw[rB b1]at hb;have he:(E.2.2==0)=false:=rA.2 b1;have hf:decide (E.2.2=0)=false:=rI b1;clear v dp;have I:=c5.out;rw[hb]at I;simp only at I;clear c5;subst I;go_wp2_with fail;go_ret;exact⟨e5,cR,Z,cc,rfl,r,cW⟩
      ·obtain rfl:q=m:=V;have g0:¬(q:Int)<(q:Int):=V;have hb:=v.out;rw[sx da,L4]at hb;clear v;have I:=c5.out;rw[hb]at I;simp only[rL,tN,Kv,rP,sl]at I;clear c5;subst I;go_wp2_with fail;go_ret;refine⟨bw,c4,a6,c1,?_,aa,b8⟩;simp
   ·have an:=b7.out;rw[rB a1]at an H;rw[rB a1];clear b7;subst an;simp only at H|-;rw[sX]at H;have h2:(D==0)=false:=rA.2 a1;have h3:decide (D=0)=false:=rI a1;go_wp2_with fail;go_loopw [26] (fun a9 wr=>a9=.int .i64 0/\wr=gx) (fun a9 _=>m-(intOf a9).toNat);case atStart=>exact⟨rfl,rfl⟩
    case
     round=>
      obtain⟨rfl,rfl⟩:=hrel;by_cases cr:0<m
      ·have g0:(0:Int)<(m:Int):=V;obtain⟨W,p,y,bv,bs,bO,b2,bx,bj,C,bz,bk,rfl,dj,hy,cp,U,G,O,N,ad⟩:=zr r1 r2 eb cr;have di:=a3 W dj;have o:∀j,wr.cell? (rN W j)=w.cell? (rN W j):=fun j=>rK (w:=w) (a:=rN W j) (a7.EL a di)
       rw[zG,sE]at U G O N ad;have e6:=(o p).trans U;have e7:=(o (p+1)).trans G;have e8:=(o (p+2)).trans O;have e9:=(o (p+3)).trans N;have ea:=(o (p+4)).trans ad;clear U G O N ad o;have br:=a7.js a cp a3;have a5:=dz y (rU hy);have M:=(afw wr).al rV (jc bv bs bO b2 bx bj C bz bk);have be:=M.yg;go_upto_region 6 with fail;generalize wr.alloc _=ec at*;have c8:=H.below M;have c6:=a7.trans (H.yM (sa.of M));have cv:=br.stay M (fun b hb=>by have:=a3 b hb;have:=H.r.lt;omega);have a4:=d7 y a5.1 a5.2 ar fi ec g e4 L cE e3 d2 _ D X bv bs bO b2 bx bj C bz bk c8 cv a3;have ci:uf F y ar (S.map td) D=(0,[],D):=by
        cases F with
        |zero=>rfl
        |succ F=>rw[uf,rB a1]
       rw[ci]at a4;obtain⟨cz,cA,eh,ei,ek, -⟩:=be.xe;clear br e6 e7 e8 e9 ea a5 M H a7 be;go_wp2_with fail;refine a4.mono ?_;rintro e' ed ⟨e5,cR,Z,cc,rfl,r,c7⟩;have cf:=r.cl.c2;clear cz cA eh ei ek a4;simp only at cf r;rw[sX]at r;go_wp2_with fail;go_ret;exact⟨e5,cR,Z,cc,rfl,by rw[sX];exact r,c6.trans c7⟩
      ·obtain rfl:m=0:=V;go_wp2_with fail;go_ret;exact⟨e4,cE,e3,d2,rfl,by rw[sX];exact H,a7⟩
end
