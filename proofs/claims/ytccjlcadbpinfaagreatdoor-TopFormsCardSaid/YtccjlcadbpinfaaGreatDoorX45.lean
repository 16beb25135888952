import Derived.Test.YtccjlcadbpinfaaGreatDoorX25
import Derived.BigRegion
set_option linter.all false
set_option maxRecDepth 100000
set_option maxHeartbeats 16000000
namespace Go.Proofs.YtccjlcadbpinfaaGreatDoor.Tp
open ChangeShapes WideShapes ChangeAt RowKit
open Num Mem Can
inductive rp where|mk (kind int:Int) (bits:Nat) (bytes:acM) (items:List rp) (keys:List acM)
def rp.kind:rp->Int| .mk k _ _ _ _ _=>k
def rp.int:rp->Int| .mk _ i _ _ _ _=>i
def rp.bits:rp->Nat| .mk _ _ b _ _ _=>b
def rp.bytes:rp->acM| .mk _ _ _ t _ _=>t
def rp.items:rp->List rp| .mk _ _ _ _ l _=>l
def rp.keys:rp->List acM| .mk _ _ _ _ _ l=>l
def Xw(xs:acM):List (List Value):=xs.map fun x=>[bc x]
abbrev vq(k i:Int)(b:Nat)(A:acN)(n c:Nat)(A':acN)(n' c':Nat)(a:acN)(e d:Nat):List Value:=[.int .i64 k,.int .i64 i,.int .u64 (b:Int),.slice A n c,.slice A' n' c',.slice a e d]
abbrev OE:Nat:=9223372036854775807
inductive A9(w:World)(X:acO):List Value->rp->Prop
 |mk {kind int:Int} {bits:Nat} {A A' A'':acN} {n c n' c' n'' c'':Nat} {bytes:acM} {items:List rp} {keys:List acM} {css:List (List Value)} (hb:Row w X 1 A n (Xw bytes)) (hr:Row w X 6 A' n' css) (hl:css.length=items.length) (hi:∀(i:Nat)(h:i<css.length)(h':i<items.length),A9 w X css[i] items[i]) (hk:Row w X 1 A'' n'' (uF keys)) (hn:n<=c/\n'<=c'/\n''<=c'') (hm:n<=OE/\n'<=OE/\n''<=OE) (hi1: -9223372036854775808<=int/\int<=9223372036854775807) (hi2:bits<=18446744073709551615):A9 w X (vq kind int bits A n c A' n' c' A'' n'' c'') (.mk kind int bits bytes items keys)
def A9.keep{w w':World}{X Y:acO}{cs:List Value}{j:rp}(h:A9 w X cs j)(d:∀q:Addr,X q.block->w'.cell? q=w.cell? q)(a:∀b,X b->Y b):A9 w' Y cs j:=by
 induction h with
 |mk hb hr hl _ RF hn hm h1 h2 ih=>exact .mk (hb.keep d a) (hr.keep d a) hl (fun i h e=>ih i h e) (RF.keep d a) hn hm h1 h2
def A9.stay{w w':World}{B:Nat}{X:acO}{cs:List Value}{j:rp}(h:A9 w X cs j)(hb:Below B w w')(a:∀b,X b->b<B):A9 w' X cs j:=h.keep (fun _ d=>hb.cell (a _ d)) (fun _ h=>h)
def A9.form{w:World}{X:acO}{cs:List Value}{j:rp}(h:A9 w X cs j):∃k i b A n c A' n' c' a e d,cs=vq k i b A n c A' n' c' a e d:=by cases h;exact⟨_,_,_,_,_,_,_,_,_,_,_,_,rfl⟩
def A9.inv{w:World}{X:acO}{k i:Int}{b:Nat}{A A' d:acN}{n c n' c' a e:Nat}{v:rp}(h:A9 w X (vq k i b A n c A' n' c' d a e) v):(k=v.kind/\i=v.int/\b=v.bits)/\Row w X 1 A n (Xw v.bytes)/\(∃css,Row w X 6 A' n' css/\css.length=v.items.length/\∀(i:Nat)(h:i<css.length)(z:i<v.items.length),A9 w X css[i] v.items[i])/\Row w X 1 d a (uF v.keys)/\(n<=c/\n'<=c'/\a<=e)/\(n<=OE/\n'<=OE/\a<=OE)/\(-9223372036854775808<=v.int/\v.int<=9223372036854775807)/\v.bits<=18446744073709551615:=by
 obtain⟨cs,j⟩:∃cs,cs=vq k i b A n c A' n' c' d a e:=⟨_,rfl⟩;rw[<-j]at h;cases h with
 |mk hb y r p q x t l m=>simp only[vq,List.cons.injEq,Value.int.injEq,P1,true_and,and_true]at j;obtain⟨rfl,rfl,o,⟨rfl,rfl,rfl⟩,⟨rfl,rfl,rfl⟩,rfl,rfl,rfl⟩:=j;obtain rfl:=Int.ofNat.inj o;exact⟨⟨rfl,rfl,rfl⟩,hb,⟨_,y,r,p⟩,q,x,t,l,m⟩
def Kg{w:World}{X:acO}{A:acN}{n B:Nat}{xs:acM}(h:Row w X 1 A n (Xw xs))(i:∀b,X b->b<B):Rd w B A n xs:=by
 refine⟨by rw[<-h.len];exact(sD _).symm,fun m=> ?_⟩;obtain⟨g,p,e,l,k⟩:=h.pos m;refine⟨g,p,e,i g l,fun j x o=> ?_⟩;have d:(Xw xs)[j]? =some [bc x]:=by unfold Xw;rw[tz,o];rfl
 have a:=(k j _ d).2 0 _ rfl;rw[show p+(j*1+0)=p+j from V]at a;exact a
def CK{w:World}{X Y:acO}{A:acN}{n:Nat}{css:List (List Value)}{items:List rp}(hr:Row w X 6 A n css)(H:css.length=items.length)(E:∀(i:Nat)(h:i<css.length)(F:i<items.length),A9 w Y css[i] items[i]){j:Nat}(G:j<n):∃g p x k i b d o c1 e q c2 l r m,A=some ⟨g,p,none⟩/\X g/\items[j]? =some x/\A9 w Y (vq k i b d o c1 e q c2 l r m) x/\w.cell? ⟨g,p+j*6,none⟩=some (.int .i64 k)/\w.cell? ⟨g,p+j*6+1,none⟩=some (.int .i64 i)/\w.cell? ⟨g,p+j*6+2,none⟩=some (.int .u64 (b:Int))/\w.cell? ⟨g,p+j*6+3,none⟩=some (.slice d o c1)/\w.cell? ⟨g,p+j*6+4,none⟩=some (.slice e q c2)/\w.cell? ⟨g,p+j*6+5,none⟩=some (.slice l r m):=by obtain⟨g,p,z,D,B⟩:=hr.pos V;have v:j<css.length:=cM;have y:j<items.length:=V;have t:=E j v y;obtain⟨k,i,b,d,o,c1,e,q,c2,l,r,m,C⟩:=t.form;have a:=(B j css[j] (ry v)).2;rw[C]at t a;exact⟨g,p,items[j],k,i,b,d,o,c1,e,q,c2,l,r,m,z,D,ry y,t,a 0 _ rfl,a 1 _ rfl,a 2 _ rfl,a 3 _ rfl,a 4 _ rfl,a 5 _ rfl⟩
def Gz(v:rp):Bool:=(decide (v.int=0)||decide (v.kind=2)||decide (v.kind=3)||decide (v.kind=4)||decide (v.kind=10)||decide (v.kind=13))&&(decide (v.bits=0)||decide (v.kind=5)||decide (v.kind=6))&&(decide (v.bytes.length=0)||decide (v.kind=7)||decide (v.kind=8)||decide (v.kind=14))&&(decide (v.items.length=0)||decide (v.kind=12)||decide (v.kind=9)||decide (v.kind=11)||decide (v.kind=13))&&(decide (v.keys.length=0)||decide (v.kind=12))
def LV(k:acM):Bool:=decide (20000<k.length)|| !(Ut.vA k).isSome
def JW(l:List acM):Bool:= !(l.any LV)
def Dl(a:Nat->rp->Bool)(of:Nat->Int):Nat->List rp->Bool
 |_,[]=>true
 |i,x::r=>a (of i).toNat x&&Dl a of (i+1) r
def Ag(a:Nat->rp->Bool)(of:Nat->Int)(l:List rp):Bool:=Dl a of 0 l&&decide (l.length<=300)
def Nw(x:Nd)(i:Nat):Int:=match x.fields[i]? with|some f=>f.type|none=>0
def WV(x:Nd)(i:Nat):Int:=x.rR[i]?.getD 0
def wQ(S:List Nd):Nat->Nat->rp->Bool
 |0,_,_=>false
 |f+1,a,v=>
 match S[a]? with
 |none=>false
 |some x=>if(!decide (v.kind=x.kind)||(!Gz v||decide (20000<v.bytes.length)))=true then false else if x.kind=2 then decide (v.int=0)||decide (v.int=1)else if x.kind=3 then decide (-2147483648<=v.int)&&decide (v.int<=2147483647)else if x.kind=5 then decide (v.bits<4294967296)else if x.kind=8 then(Ut.vA v.bytes).isSome else if x.kind=14 then decide ((v.bytes.length:Int)=x.size)else if x.kind=10 then decide (0<=v.int)&&decide (v.int<(x.symbols.length:Int))else if x.kind=9 then decide (v.items.length=x.fields.length)&&Ag (wQ S f) (Nw x) v.items else if x.kind=12 then(decide (v.keys.length=v.items.length)&&JW v.keys)&&Ag (wQ S f) (fun _=>x.items) v.items else if x.kind=11 then Ag (wQ S f) (fun _=>x.items) v.items else if x.kind=13 then decide (0<=v.int)&&(decide (v.int<(x.rR.length:Int))&&(decide (v.items.length=1)&&match v.items with| []=>false|y::_=>wQ S f (WV x v.int.toNat).toNat y))else true
def Lv{b d:Nat->rp->Bool}{of j:Nat->Int}(h:∀a v,b a v=d a v)(e:∀i,of i=j i):∀(l:List rp)(i:Nat),Dl b of i l=Dl d j i l
 | [],_=>rfl
 |x::r,i=>by simp only[Dl,h,e,Lv h e r]
end Go.Proofs.YtccjlcadbpinfaaGreatDoor.Tp
namespace Go.Proofs.YtccjlcadbpinfaaGreatDoor.Vr
open ChangeShapes WideShapes ChangeAt RowKit
open Num Zg Mem
def Eh(u:Nat):acM:=if h:u<128 then [UInt8.ofNat u]else UInt8.ofNat (u%128+128)::Eh (u/128)
termination_by u
decreasing_by omega
def DB{u:Nat}(h:u<128):Eh u=[UInt8.ofNat u]:=by rw[Eh];simp[h]
def Mz{u:Nat}(h:128<=u):Eh u=UInt8.ofNat (u%128+128)::Eh (u/128):=by rw[Eh];simp[show¬u<128 from V]
def MA:∀(k u:Nat),parts u<=k->(Eh u).length=parts u:=by
 intro k;induction k with
 |zero=>intro u h;have:=I6 u;omega
 |succ k d=>
  intro u h;by_cases a:u<128;·rw[DB a,L8 a];rfl
  ·have b:=NZ (u:=u) V;rw[Mz V,rM,d (u/128) V,b]
def CQ(u:Nat):(Eh u).length=parts u:=MA _ u rT
def Ev(xs:acM)(u0:Nat)(a:acM)(u:Nat):Prop:=a++Eh u=xs++Eh u0/\u<=u0
def Fl{xs a:acM}{u0 u:Nat}(h:Ev xs u0 a u)(d:128<=u):Ev xs u0 (a++[UInt8.ofNat (u%128+128)]) (u/128):=by obtain⟨b,e⟩:=h;refine⟨?_,V⟩;rw[<-b,Mz d];simp
def Hn{xs a:acM}{u0 u:Nat}(h:Ev xs u0 a u)(b:u<128):a++[UInt8.ofNat u]=xs++Eh u0:=by rw[<-h.1,DB b]
def Ho{xs a:acM}{u0 u:Nat}(h:Ev xs u0 a u)(d:u0<18446744073709551616):a.length<=xs.length+9:=by have b:=vy List.length h.1;simp only[rC,CQ]at b;have:=L7 d;have:=I6 u;omega
def Xb(u:Nat):bits BinOp.or IntKind.u8 ((u:Int)%256) 128=((UInt8.ofNat (u%128+128)).toNat:Int):=by
 have h:=u8_or_nat (u%256) 128 V V;have e:u%256|||128=u%128+128:=by
  have b:u%256=u%128+u/128%2*128:=V;have i:=nat_join 7 128 (u%128) V V;rcases(show u/128%2=0\/u/128%2=1 from V)with a|a;·rw[b,a,Nat.or_comm];simpa[Gj]using i
  ·rw[b,a,Nat.or_comm];have d:=nat_join 7 128 (u%128) V V;have j:u%128+1*128=128|||u%128:=by rw[d];omega
   rw[j,<-Nat.or_assoc,Nat.or_self,d]
 rw[e]at h;rw[tc];rw[show(u%128+128)%2^8=u%128+128 from V];simpa using h
def wj(n:Int)(E: -9223372036854775808<=n)(F:n<=9223372036854775807)(A:acN)(k c:Nat)(xs:acM)(a:Nat)(w:World)(z:Mem.Own w a A k c xs)(X:a<=w.heap.size)(Y:k<=1000000000):Calls Tryz.prog 133 #[.slice A k c,.int .i64 n] w fun e w'=>∃A' c',e=.returned (.slice A' (k+parts (KB n).toNat) c')/\Mem.Own w' a A' (k+parts (KB n).toNat) c' (xs++Eh (KB n).toNat)/\Below a w w':=by
 have G:=H2 n;have N:=Ou n E F;obtain⟨u,I⟩:=tD G;have D:=rq I;have U:u<18446744073709551616:=V;clear I G N;go_enter Tryz.func133,Tryz.ntmps133;go_wp2_with fail;refine(PC n E F _).mono ?_;rintro e w' ⟨rfl,rfl⟩;rw[D.out];go_wp2_with fail;go_loopw [0,5] (fun b v wr=>∃(B:acM)(q m d:Nat)(o:acN),Ev xs u B q/\v=.int .u64 q/\b=.slice o m d/\Mem.Own wr a o m d B/\Below a w wr) (fun _ v _=>(intOf v).toNat);case atStart=>exact⟨xs,u,k,c,A,⟨rfl,rN _⟩,rfl,rfl,z,Below.refl _ _⟩
 case
  round=>
   obtain⟨B,q,m,d,o,l,rfl,rfl,i,hb⟩:=hrel;have O:=Ho l U;have Q:=i.len;have R:=z.len;have a0:=l.2;have a1:=hb.size;have Z:m<=1000000009:=V;clear O Q R;by_cases T:128<=q
   ·have H:=Fl l T;have S:=Xb q;generalize UInt8.ofNat (q%128+128)=x at H S;go_wp2_with(at_builtin;refine yF rfl rfl (i.alloc _) rfl (N9 _ x) V (by simp;omega) ?_;intro p c2 W j r);go_roundw;case rel=>exact⟨_,q/128,m+1,c2,p,H,by go_num,rfl,j,(hb.alloc V _).trans r⟩
    case measure=>simp[intOf];omega
   ·have K:((q:Int))=((UInt8.ofNat q).toNat:Int):=ca;have M:=rq K;clear K;have t:=Hn l V;have y:=vy List.length t;simp only[rC,CQ,yi,i.len,z.len]at y;have L:=rq t;have C:=rq y;clear t y;go_wp2_with(at_builtin;refine yF rfl rfl (i.alloc _) rfl (rd_val _ (UInt8.ofNat q) _ M.out) V (by simp;omega) ?_;intro p c2 W j r);go_ret;rw[L.out,C.out]at j;rw[D.out,C.out,rW];exact⟨p,c2,rfl,j,(hb.alloc V _).trans r⟩
section
variable{w:World}{g:Nat}{u s X8 last n:Int}
end
def tk(X8 last:Nat):Nat->Nat->acM->Nat×Nat×Nat
 |_,_,[]=>(0,0,10)
 |i,u,c::r=>if i+1=X8/\last<c.toNat then(0,0,11)else if c.toNat=0/\0<i then(0,0,11)else if c.toNat<128 then(u+c.toNat%128*128^i,i+1,0)else tk X8 last (i+1) (u+c.toNat%128*128^i) r
end Go.Proofs.YtccjlcadbpinfaaGreatDoor.Vr
namespace Go.Proofs.YtccjlcadbpinfaaGreatDoor.Vr
open Num Zg Mem
def val:Nat->acM->Nat
 |_,[]=>0
 |0,c::_=>c.toNat
 |n+1,c::r=>val n r*128+c.toNat%128
end Go.Proofs.YtccjlcadbpinfaaGreatDoor.Vr
namespace Go.Proofs.YtccjlcadbpinfaaGreatDoor.Wr
open ChangeShapes WideShapes ChangeAt RowKit
open Num Mem
def tb(v:Int):UInt8:=if v=0 then 0 else 1
def Pc(u k:Nat):acM:=(List.range k).map fun j=>UInt8.ofNat (u/256^j%256)
def zn(u k:Nat):Pc u (k+1)=Pc u k++[UInt8.ofNat (u/256^k%256)]:=by unfold Pc;rw[List.range_succ,wO];rfl
def JX(u k:Nat):(Pc u k).length=k:=by unfold Pc;simp
def Po(a:acM):acM:=Vr.Eh (KB (a.length:Int)).toNat++a
end Go.Proofs.YtccjlcadbpinfaaGreatDoor.Wr
namespace Go.Proofs.YtccjlcadbpinfaaGreatDoor.Tp
open ChangeShapes WideShapes ChangeAt RowKit
open Num Mem Can Wr
def Ig:List acM->Int->Int×Bool
 | [],n=>(n,false)
 |k::r,n=>if n<=2500 then(if 2500<k.length then(2501,true)else Ig r (n+1+(k.length:Int)))else(n,false)
def OF(a:rp->Int):List rp->Int->Int
 | [],n=>n
 |x::r,n=>if n<=2500 then OF a r (n+a x)else n
def wB:Nat->rp->Int
 |0,_=>2501
 |f+1,v=>if(decide (2500<v.bytes.length)||(decide (2500<v.items.length)||decide (2500<v.keys.length)))=true then 2501 else if(Ig v.keys (1+(v.bytes.length:Int))).2=true then 2501 else OF (wB f) v.items (Ig v.keys (1+(v.bytes.length:Int))).1
def RL:List acM->Nat
 | []=>0
 |k::r=>1+k.length+RL r
inductive Vj:Nat->Nat->rp->Prop
 |mk {f z:Nat} {v:rp} {zs:List Nat} (hz:1+v.bytes.length+RL v.keys+zs.sum<=z) (hi:v.items.length=zs.length) (hk:v.items.length<=2500/\v.keys.length<=2500) (hs:∀(i:Nat)(y:rp)(q:Nat),v.items[i]? =some y->zs[i]? =some q->Vj f q y):Vj (f+1) z v
def SA:∀(l:List acM)(n:Int),(Ig l n).2=false->(Ig l n).1<=2500->(Ig l n).1=n+(RL l:Int)
 | [],n,_,_=>by simp[Ig,RL]
 |k::r,n,b,a=>
 by
  unfold Ig at b a|-;split at b
  ·rename_i d;rw[rv d]at a|-;split at b;·cases b
   ·rename_i e;rw[ru e]at a|-;rw[SA r _ b a];simp only[RL];omega
  ·rename_i d;rw[ru d]at a|-;simp only at a;omega
def Jy{a:rp->Int}(b:∀x,0<=a x):∀(l:List rp)(n:Int),n<=OF a l n
 | [],n=>Ao _
 |x::r,n=>
 by
  unfold OF;split;·have:=Jy b r (n+a x);have:=b x;omega
  ·exact Ao _
def OG{a:rp->Int}(b:∀x,0<=a x):∀(l:List rp)(n:Int),OF a l n<=2500->OF a l n=n+((l.map fun x=>(a x).toNat).sum:Nat)/\∀x∈l,a x<=2500-n
 | [],n,_=>⟨by simp[OF],bi⟩
 |x::r,n,h=>
 by
  unfold OF at h|-;split at h
  ·rename_i d;rw[rv d];obtain⟨i,j⟩:=OG b r _ h;have:=Jy b r (n+a x);have k:=b x;refine⟨by rw[i];simp only[uH,Cb];omega,fun y e=> ?_⟩;rcases sg.1 e with rfl|e;·omega
   ·have:=j y e;omega
  ·rename_i d;rw[ru d];omega
def Nf:∀(l:List acM)(n:Int),0<=n->0<=(Ig l n).1
 | [],n,h=>h
 |k::r,n,h=>
 by
  unfold Ig;split
  ·split;·simp
   ·exact Nf r _ V
  ·exact h
def FQ:∀(f:Nat)(v:rp),0<=wB f v
 |0,_=>by simp[wB]
 |f+1,v=>
 by
  unfold wB;split;·omega
  ·split;·omega
   ·have:=Jy (FQ f) v.items (Ig v.keys (1+(v.bytes.length:Int))).1;have:=Nf v.keys (1+(v.bytes.length:Int)) V;omega
def Jz:∀(f:Nat)(v:rp),wB f v<=2500->Vj f (wB f v).toNat v
 |0,_,h=>by simp[wB]at h
 |f+1,v,h=>
 by
  unfold wB at h|-;split at h;·omega
  ·rename_i b;rw[ru b];split at h;·omega
   ·rename_i d;rw[ru d];simp only[wN,rQ,NV]at b;obtain⟨j,k⟩:=OG (FQ f) _ _ h;have o:=Jy (FQ f) v.items (Ig v.keys (1+(v.bytes.length:Int))).1;have l:=SA v.keys (1+(v.bytes.length:Int)) (by simpa using d) V;refine .mk (zs:=v.items.map fun x=>(wB f x).toNat) ?_ bi V (fun i y q e a=> ?_);·rw[j,l];omega
    ·rw[tz,e]at a;injection a with a;subst a;have m:=rL e;have:=k y m;have:=Nf v.keys (1+(v.bytes.length:Int)) V;exact Jz f y V
def NO:∀(l:List Nat)(q:Nat),q∈l->q<=l.sum
 |a::r,q,h=>
 by
  rw[Cb];rcases sg.1 h with rfl|h;·omega
  ·have:=NO r q h;omega
def Er(n:Int):acM:=Vr.Eh (KB n).toNat
def GD(l:List acM):acM:=(if l.length=0 then []else Er (l.length:Int)++l.flatten)++Er 0
def Hs(a:Nat->rp->acM):List Fd->List rp->acM
 |f::r,v::l=>a f.type.toNat v++Hs a r l
 |_,_=>[]
def AV(a:rp->acM):List acM->List rp->List acM
 |k::r,v::l=>(Po k++a v)::AV a r l
 |_,_=>[]
def xb(S:List Nd):Nat->Nat->rp->acM
 |0,_,_=>[]
 |f+1,a,v=>
 match S[a]? with
 |none=>[]
 |some x=>if x.kind=2 then [tb v.int]else if x.kind=3\/x.kind=4\/x.kind=10 then Er v.int else if x.kind=5 then Pc v.bits 4 else if x.kind=6 then Pc v.bits 8 else if x.kind=7\/x.kind=8 then Po v.bytes else if x.kind=14 then v.bytes else if x.kind=9 then Hs (xb S f) x.fields v.items else if x.kind=11 then GD (v.items.map (xb S f x.items.toNat))else if x.kind=12 then GD (AV (xb S f x.items.toNat) v.keys v.items)else if x.kind=13 then Er v.int++(match v.items with| []=>[]|y::_=>xb S f (WV x v.int.toNat).toNat y)else []
def AM(n:Int)(a: -9223372036854775808<=n)(b:n<=9223372036854775807):(Er n).length<=10:=by unfold Er;rw[Vr.CQ];exact L7 (by have:=Ou n a b;omega)
inductive MW:rp->Prop
 |mk {v:rp} (h: -9223372036854775808<=v.int/\v.int<=9223372036854775807) (hi:∀y∈v.items,MW y):MW v
def A9.ints{w:World}{X:acO}{cs:List Value}{v:rp}(h:A9 w X cs v):MW v:=by
 induction h with
 |mk hb r e m o q p b l k=>refine .mk b (fun y j=> ?_);obtain⟨i,a,d⟩:=Jp.1 j;have:=k i (by rw[e];exact a) a;rw[<-d];exact this
def Ka(a:acM)(h:a.length<=9223372036854775807):(Po a).length<=10+a.length:=by unfold Po;rw[rC];have:=AM (a.length:Int) V V;unfold Er at this;omega
def Uh:∀(l:List acM)(k:acM),k∈l->k.length<=RL l
 |a::r,k,h=>
 by
  rcases sg.1 h with rfl|h;·simp only[RL];omega
  ·have:=Uh r k h;simp only[RL];omega
def OP{b:Nat->rp->acM}:∀(e:List Fd)(l:List rp)(zs:List Nat),l.length=zs.length->(∀(i:Nat)(y:rp)(q:Nat),l[i]? =some y->zs[i]? =some q->∀a,(b a y).length<=30*q)->(Hs b e l).length<=30*zs.sum
 | [],l,zs,_,_=>by simp[Hs]
 |f::r,[],zs,_,_=>by simp[Hs]
 |f::r,v::l,[],h,_=>fW
 |f::r,v::l,z::zs,h,d=>by have j:=OP r l zs dC (fun i y q hy hq=>d (i+1) y q kR fe);have k:=d 0 v z rfl rfl f.type.toNat;simp only[Hs,rC,Cb];omega
def IH{a:rp->acM}:∀(l:List rp)(zs:List Nat),l.length=zs.length->(∀(i:Nat)(y:rp)(q:Nat),l[i]? =some y->zs[i]? =some q->(a y).length<=30*q)->((l.map a).flatten).length<=30*zs.sum
 | [],zs,_,_=>bi
 |v::l,[],h,_=>fW
 |v::l,z::zs,h,b=>by have d:=IH l zs dC (fun i y q hy hq=>b (i+1) y q kR fe);have e:=b 0 v z rfl rfl;simp only[uH,tJ,rC,Cb];omega
def OO{a:rp->acM}:∀(ks:List acM)(l:List rp)(zs:List Nat),RL ks<=9223372036854775807->l.length=zs.length->(∀(i:Nat)(y:rp)(q:Nat),l[i]? =some y->zs[i]? =some q->(a y).length<=30*q)->((AV a ks l).flatten).length<=10*RL ks+30*zs.sum
 | [],l,zs,_,_,_=>by simp[AV]
 |f::r,[],zs,_,_,_=>by simp[AV]
 |f::r,v::l,[],_,h,_=>fW
 |k::r,v::l,z::zs,hb,h,b=>by simp only[RL]at hb;have d:=OO r l zs V dC (fun i y q hy hq=>b (i+1) y q kR fe);have e:=b 0 v z rfl rfl;have j:=Ka k V;simp only[AV,tJ,rC,Cb,RL];omega
def OH(l:List acM)(h:l.length<=9223372036854775807):(GD l).length<=20+l.flatten.length:=by
 unfold GD;have a:=AM (l.length:Int) V V;have b:=AM 0 V V;rw[rC];split;·simp only[sc];omega
 ·exact ez
def LW(a:rp->acM):∀(ks:List acM)(l:List rp),(AV a ks l).length<=l.length
 | [],_=>by simp[AV]
 |_::_,[]=>by simp[AV]
 |_::r,_::l=>by have:=LW a r l;simp only[AV,rM];omega
def Vu(S:List Nd):∀(f z g a:Nat)(v:rp),Vj f z v->MW v->z<=1000000->(xb S g a v).length<=30*z:=by
 intro f;induction f with
 |zero=>intro z g a v h;cases h
 |succ f o=>
  intro z g a v h j t;cases h with
  | @mk _ _ _ zs hz hi hk hs=>
   cases j with
   |mk k j=>
    cases g with
    |zero=>simp[xb]
    |succ g=>
     have m:∀(i:Nat)(y:rp)(q:Nat),v.items[i]? =some y->zs[i]? =some q->q<=z:=fun i y q _ h=>by have:=NO zs q (rL h);omega
     have e:∀(i:Nat)(y:rp)(q:Nat),v.items[i]? =some y->zs[i]? =some q->∀a,(xb S g a y).length<=30*q:=fun i y q b d a=>o q g a y (hs i y q b d) (j y (rL b)) (by have:=m i y q b d;omega)
     have p:=AM v.int k.1 k.2;unfold xb;split;·simp
     ·rename_i x _;repeat' split
      all_goals
       first
        |(simp only[rM,sc];omega)
        |omega
        |(rw[JX];omega)
        |(have:=Ka v.bytes V;omega)
        |(have:=OP x.fields v.items zs hi e;omega)
        |(have b:=IH v.items zs hi (fun i y q b d=>e i y q b d x.items.toNat);have d:=OH (v.items.map (xb S g x.items.toNat)) (by rw[sD];omega);omega)
        |(have b:=OO v.keys v.items zs V hi (fun i y q b d=>e i y q b d x.items.toNat);have d:=OH (AV (xb S g x.items.toNat) v.keys v.items) (by have:=LW (xb S g x.items.toNat) v.keys v.items;omega);omega)
        |(rw[sw];omega)
        |skip
      rename_i y r l;rw[rC];rw[l]at hi;cases zs with
      |nil=>simp at hi
      |cons q A=>have:=e 0 y q (by rw[l];rfl) rfl (WV x v.int.toNat).toNat;simp only[Cb]at hz;omega
inductive PN:Nat->rp->Prop
 |mk {f:Nat} {v:rp} (hb:v.bytes.length<=2500) (hi:v.items.length<=2500) (hk:v.keys.length<=2500) (hs:∀k∈v.keys,k.length<=2500) (h:∀y∈v.items,PN f y):PN (f+1) v
def Vj.lv:∀{f z:Nat}{v:rp},Vj f z v->z<=2500->PN f v
 |0,_,_,h,_=>bX
 |f+1,z,v,h,m=>
 by
  cases h with
  | @mk _ _ _ zs hz' hi a hs=>
   refine .mk V a.1 a.2 (fun k a=>by have:=Uh _ k a;omega) (fun y l=> ?_);obtain⟨i,j,e⟩:=Jp.1 l;have d:v.items[i]? =some y:=by rw[ry j,e]
   have b:zs[i]? =some (zs[i]' V):=ry V;have:=NO zs _ (rL b);exact(hs i y _ d b).lv V
end Go.Proofs.YtccjlcadbpinfaaGreatDoor.Tp
namespace Go.Proofs.YtccjlcadbpinfaaGreatDoor.Tp
open ChangeShapes WideShapes ChangeAt RowKit
open Num Mem Can
open Wr
def RT(a:Nat)(A:acN)(w:World)(n:Nat)(xs:acM)(e:Ending)(w':World):Prop:=∃A' c',e=.returned (.slice A' n c')/\Mem.Own w' a A' n c' xs/\Below a w w'/\xm A w A' w'
def HW(n:Int)(F: -9223372036854775808<=n)(G:n<=9223372036854775807)(A:acN)(k c:Nat)(xs:acM)(i:Nat)(w:World)(B:Mem.Own w i A k c xs)(a0:i<=w.heap.size)(a1:k<=1000000000):Calls Tryz.prog 133 #[.slice A k c,.int .i64 n] w (RT i A w (k+(Er n).length) (xs++Er n)):=by
 have Y:(Er n).length=parts (KB n).toNat:=Vr.CQ _;unfold RT;rw[Y];unfold Er;have H:=H2 n;have Q:=Ou n F G;obtain⟨u,L⟩:=tD H;have E:=rq L;have X:u<18446744073709551616:=V;clear L H Q;go_enter Tryz.func133,Tryz.ntmps133;go_wp2_with fail;refine(Zg.PC n F G _).mono ?_;rintro e w' ⟨rfl,rfl⟩;rw[E.out];go_wp2_with fail;go_loopw [0,5] (fun b v wr=>∃(C:acM)(q m d:Nat)(a:acN),Vr.Ev xs u C q/\v=.int .u64 q/\b=.slice a m d/\Mem.Own wr i a m d C/\Below i w wr/\xm A w a wr) (fun _ v _=>(intOf v).toNat);case atStart=>exact⟨xs,u,k,c,A,⟨rfl,rN _⟩,rfl,rfl,B,Below.refl _ _,xm.refl _ _⟩
 case
  round=>
   obtain⟨C,q,m,d,a,o,rfl,rfl,j,hb,I⟩:=hrel;have R:=Vr.Ho o X;have S:=j.len;have T:=B.len;have a3:=o.2;have a4:=hb.size;have a2:m<=1000000009:=V;clear R S T;by_cases W:128<=q
   ·have K:=Vr.Fl o W;have U:=Vr.Xb q;generalize UInt8.ofNat (q%128+128)=x at K U;go_wp2_with(at_builtin;refine sS rfl rfl (j.alloc _) rfl (N9 _ x) V (by simp;omega) ?_;intro p c2 Z l r z);go_roundw;case rel=>exact⟨_,q/128,m+1,c2,p,K,by go_num,rfl,l,(hb.alloc V _).trans r,(I.trans (xm.al a wr _)).trans z⟩
    case measure=>simp[intOf];omega
   ·have M:((q:Int))=((UInt8.ofNat q).toNat:Int):=ca;have O:=rq M;clear M;have t:=Vr.Hn o V;have y:=vy List.length t;simp only[rC,Vr.CQ,yi,j.len,B.len]at y;have N:=rq t;have D:=rq y;clear t y;go_wp2_with(at_builtin;refine sS rfl rfl (j.alloc _) rfl (rd_val _ (UInt8.ofNat q) _ O.out) V (by simp;omega) ?_;intro p c2 Z l r z);go_ret;rw[N.out,D.out]at l;rw[E.out,D.out,rW];exact⟨p,c2,rfl,l,(hb.alloc V _).trans r,(I.trans (xm.al a wr _)).trans z⟩
def I9(A:acN)(n c z u:Nat)(m:Nat)(E:m<=8)(xs:acM)(w:World)(B:Mem.Own w z A n c xs)(x:z<=w.heap.size)(F:n<=1000000000)(G:u<=18446744073709551615):Calls Tryz.prog 134 #[.slice A n c,.int .u64 u,.int .i64 m] w (RT z A w (n+m) (xs++Pc u m)):=by
 go_enter Tryz.func134,Tryz.ntmps134;go_wp2_with fail;go_loopw [0,11] (fun b i wr=>∃(k:Nat)(A':acN)(c':Nat),b=.slice A' (n+k) c'/\i=.int .i64 k/\k<=m/\Mem.Own wr z A' (n+k) c' (xs++Pc u k)/\Below z w wr/\xm A w A' wr) (fun _ i _=>8-(intOf i).toNat);case atStart=>exact⟨0,A,c,rfl,rfl,V,by simpa[Pc]using B,Below.refl _ _,xm.refl _ _⟩
 case
  round=>
   obtain⟨k,q,c2,rfl,rfl,C,v,AZ,r⟩:=hrel;by_cases t:k=m;·subst t;go_wp2_with fail;go_ret;exact⟨q,c2,rfl,v,AZ,r⟩
   ·have D:(k:Int)<m:=V;rcases(show k=0\/k=1\/k=2\/k=3\/k=4\/k=5\/k=6\/k=7 from V)with o|o|o|o|o|o|o|o
    ·subst o;have a:((UInt8.ofNat (u/256^0%256)).toNat:Int)=((u/1%256:Nat):Int):=by rw[tc,show(256:Nat)^0=1 from bD];omega
     have HX:=rq a;clear a t;go_wp2_with(at_builtin;refine sS rfl rfl (v.alloc _) rfl (vj wr (UInt8.ofNat (u/256^0%256)) _ _ bi eL) V dQ ?_;intro d e y p j l);go_roundw;case rel=>refine⟨0+1,d,e,bi,bi,V,?_,(AZ.al x _).trans j,(r.trans (xm.al q wr _)).trans l⟩;rw[zn,<-rX];exact p
     case measure=>simp[intOf]
    ·subst o;have a:((UInt8.ofNat (u/256^1%256)).toNat:Int)=((u/256%256:Nat):Int):=by rw[tc,show(256:Nat)^1=256 from bD];omega
     have HX:=rq a;clear a t;go_wp2_with(at_builtin;refine sS rfl rfl (v.alloc _) rfl (vj wr (UInt8.ofNat (u/256^1%256)) _ _ bi eL) V dQ ?_;intro d e y p j l);go_roundw;case rel=>refine⟨1+1,d,e,bi,bi,V,?_,(AZ.al x _).trans j,(r.trans (xm.al q wr _)).trans l⟩;rw[zn,<-rX];exact p
     case measure=>simp[intOf]
    ·subst o;have a:((UInt8.ofNat (u/256^2%256)).toNat:Int)=((u/65536%256:Nat):Int):=by rw[tc,show(256:Nat)^2=65536 from bD];omega
     have HX:=rq a;clear a t;go_wp2_with(at_builtin;refine sS rfl rfl (v.alloc _) rfl (vj wr (UInt8.ofNat (u/256^2%256)) _ _ bi eL) V dQ ?_;intro d e y p j l);go_roundw;case rel=>refine⟨2+1,d,e,bi,bi,V,?_,(AZ.al x _).trans j,(r.trans (xm.al q wr _)).trans l⟩;rw[zn,<-rX];exact p
     case measure=>simp[intOf]
    ·subst o;have a:((UInt8.ofNat (u/256^3%256)).toNat:Int)=((u/16777216%256:Nat):Int):=by rw[tc,show(256:Nat)^3=16777216 from bD];omega
     have HX:=rq a;clear a t;go_wp2_with(at_builtin;refine sS rfl rfl (v.alloc _) rfl (vj wr (UInt8.ofNat (u/256^3%256)) _ _ bi eL) V dQ ?_;intro d e y p j l);go_roundw;case rel=>refine⟨3+1,d,e,bi,bi,V,?_,(AZ.al x _).trans j,(r.trans (xm.al q wr _)).trans l⟩;rw[zn,<-rX];exact p
     case measure=>simp[intOf]
    ·subst o;have a:((UInt8.ofNat (u/256^4%256)).toNat:Int)=((u/4294967296%256:Nat):Int):=by rw[tc,show(256:Nat)^4=4294967296 from bD];omega
     have HX:=rq a;clear a t;go_wp2_with(at_builtin;refine sS rfl rfl (v.alloc _) rfl (vj wr (UInt8.ofNat (u/256^4%256)) _ _ bi eL) V dQ ?_;intro d e y p j l);go_roundw;case rel=>refine⟨4+1,d,e,bi,bi,V,?_,(AZ.al x _).trans j,(r.trans (xm.al q wr _)).trans l⟩;rw[zn,<-rX];exact p
     case measure=>simp[intOf]
    ·subst o;have a:((UInt8.ofNat (u/256^5%256)).toNat:Int)=((u/1099511627776%256:Nat):Int):=by rw[tc,show(256:Nat)^5=1099511627776 from bD];omega
     have HX:=rq a;clear a t;go_wp2_with(at_builtin;refine sS rfl rfl (v.alloc _) rfl (vj wr (UInt8.ofNat (u/256^5%256)) _ _ bi eL) V dQ ?_;intro d e y p j l);go_roundw;case rel=>refine⟨5+1,d,e,bi,bi,V,?_,(AZ.al x _).trans j,(r.trans (xm.al q wr _)).trans l⟩;rw[zn,<-rX];exact p
     case measure=>simp[intOf]
    ·subst o;have a:((UInt8.ofNat (u/256^6%256)).toNat:Int)=((u/281474976710656%256:Nat):Int):=by rw[tc,show(256:Nat)^6=281474976710656 from bD];omega
     have HX:=rq a;clear a t;go_wp2_with(at_builtin;refine sS rfl rfl (v.alloc _) rfl (vj wr (UInt8.ofNat (u/256^6%256)) _ _ bi eL) V dQ ?_;intro d e y p j l);go_roundw;case rel=>refine⟨6+1,d,e,bi,bi,V,?_,(AZ.al x _).trans j,(r.trans (xm.al q wr _)).trans l⟩;rw[zn,<-rX];exact p
     case measure=>simp[intOf]
    ·subst o;have a:((UInt8.ofNat (u/256^7%256)).toNat:Int)=((u/72057594037927936%256:Nat):Int):=by rw[tc,show(256:Nat)^7=72057594037927936 from bD];omega
     have HX:=rq a;clear a t;go_wp2_with(at_builtin;refine sS rfl rfl (v.alloc _) rfl (vj wr (UInt8.ofNat (u/256^7%256)) _ _ bi eL) V dQ ?_;intro d e y p j l);go_roundw;case rel=>refine⟨7+1,d,e,bi,bi,V,?_,(AZ.al x _).trans j,(r.trans (xm.al q wr _)).trans l⟩;rw[zn,<-rX];exact p
     case measure=>simp[intOf]
def Q0(A:acN)(n c a:Nat)(v:Int)(xs:acM)(w:World)(b:Mem.Own w a A n c xs)(Dm:a<=w.heap.size)(i:n<=1000000000):Calls Tryz.prog 132 #[.slice A n c,.int .i64 v] w (RT a A w (n+1) (xs++[tb v])):=by
 unfold tb;by_cases h:v=0;·subst h;rw[rv rfl];go_enter Tryz.func132,Tryz.ntmps132;go_wp2_with(at_builtin;refine sS rfl rfl (b.alloc _) rfl (rd_val w 0 0 rfl) V (by simp;omega) ?_;intro A4 c4 d D1 DV MI);exact gW
 ·rw[ru h];have e:(v !=0)=true:=iE;go_enter Tryz.func132,Tryz.ntmps132;go_wp2_with(at_builtin;refine sS rfl rfl (b.alloc _) rfl (rd_val w 1 1 rfl) V (by simp;omega) ?_;intro A4 c4 d D1 DV MI);exact gW
def Yh{w i:World}{A l A':acN}{n B:Nat}{k:acM}(d:Rd w B A' n k)(p:0<n->∀a,A'=some a->A.map (·.block)≠some a.block)(t:B<=w.heap.size)(o:xm A w l i):Rd i B A' n k:=⟨d.1,fun b=>by obtain⟨g,r,e,hb,m⟩:=d.2 b;exact⟨g,r,e,hb,fun j x q=>(rD (w:=w) (o.block g V (p b _ e))).trans (m j x q)⟩⟩
def Hp(A A':acN)(n c n' c' b B:Nat)(xs a:acM)(w:World)(F:Mem.Own w b A n c xs)(l:b<=w.heap.size)(q:Rd w B A' n' a)(x:B<=w.heap.size)(C:0<n'->∀j,A'=some j->A.map (·.block)≠some j.block)(I:n<=1000000)(K:n'<=1000000):Calls Tryz.prog 135 #[.slice A n c,.slice A' n' c'] w (RT b A w (n+(Po a).length) (xs++Po a)):=by
 have o:=q.len;have G:=AM (n':Int) V V;have d:Po a=Er (n':Int)++a:=by unfold Po Er;rw[o]
 have p:(Po a).length=(Er (n':Int)).length+n':=by rw[d,rC,o]
 unfold RT;rw[p,d];have i:=HW (n':Int) V V A n c xs b w F l V;generalize Er (n':Int)=rp at i G|-;have t:=rq i;clear i d p;go_enter Tryz.func135,Tryz.ntmps135;go_wp2_with fail;refine t.out.mono ?_;rintro e L ⟨H,c2,rfl,D,k,m⟩;go_wp2_with(at_builtin;refine sS rfl rfl D rfl (Yh q C x m) V (sG l k.size) ?_;intro r v M E y z);go_ret;exact⟨r,v,by rw[zL];rfl,by rw[<-rX,<-zL];exact E,k.trans y,m.trans z⟩
end Go.Proofs.YtccjlcadbpinfaaGreatDoor.Tp
namespace Go.Proofs.YtccjlcadbpinfaaGreatDoor.Tp
open ChangeShapes WideShapes ChangeAt RowKit
open Num Mem Can
def Rk(x:Nd)(i:Nat):Nw (ud x) i=Nw x i:=by unfold Nw ud;simp only[tz];cases x.fields[i]?<;>rfl
def Lw{b d:Nat->rp->Bool}{of e:Nat->Int}(h:∀a v,b a v=d a v)(j:∀i,of i=e i)(l:List rp):Ag b of l=Ag d e l:=by unfold Ag;rw[Lv h j]
def Oe(S:List Nd):∀(f a:Nat)(v:rp),wQ (vT S) f a v=wQ S f a v:=by
 intro f;induction f with
 |zero=>intro a v;rfl
 |succ f b=>
  intro a v;simp only[wQ,CN];cases S[a]? with
  |none=>rfl
  |some x=>
   simp only[uj];have e:(ud x).kind=x.kind:=rfl;have l:(ud x).size=x.size:=rfl;have k:(ud x).symbols=x.symbols:=rfl;have h:(ud x).fields.length=x.fields.length:=by unfold ud;simp only[sD]
   have d:(ud x).items=x.items:=rfl;have hb:(ud x).rR=x.rR:=rfl;have j:∀i,WV (ud x) i=WV x i:=fun _=>rfl
   simp only[e,l,k,h,d,hb,j,b,Lw b (Rk x),Lw b (fun _=>rfl:∀i:Nat,x.items=x.items)]
