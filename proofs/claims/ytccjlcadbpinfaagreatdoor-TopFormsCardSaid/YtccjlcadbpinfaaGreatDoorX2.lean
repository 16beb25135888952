import Derived.Test.YtccjlcadbpinfaaGreatDoorX1
import Derived.Test.YtccjlcadbpinfaaGreatDoorShelf
set_option linter.all false
set_option maxRecDepth 100000
set_option maxHeartbeats 4000000
namespace Go.Proofs.YtccjlcadbpinfaaGreatDoor.Tp
open ChangeShapes WideShapes ChangeAt RowKit
open Num Mem
abbrev wA:Value:=.agg #[.string ⟨#[]⟩,.string ⟨#[110,117,108,108]⟩,.string ⟨#[98,111,111,108,101,97,110]⟩,.string ⟨#[105,110,116]⟩,.string ⟨#[108,111,110,103]⟩,.string ⟨#[102,108,111,97,116]⟩,.string ⟨#[100,111,117,98,108,101]⟩,.string ⟨#[98,121,116,101,115]⟩,.string ⟨#[115,116,114,105,110,103]⟩,.string ⟨#[114,101,99,111,114,100]⟩,.string ⟨#[101,110,117,109]⟩,.string ⟨#[97,114,114,97,121]⟩,.string ⟨#[109,97,112]⟩,.string ⟨#[]⟩,.string ⟨#[102,105,120,101,100]⟩]
def Im(c:UInt8):Bool:=decide ((97<=c.toNat/\c.toNat<=122)\/(65<=c.toNat/\c.toNat<=90)\/c.toNat=95)
def vr(c:UInt8):Bool:=decide (48<=c.toNat/\c.toNat<=57)
def I0(c:UInt8):Bool:=Im c||vr c
def xN:acM->Bool
 | []=>false
 |c::r=>Im c&&r.all I0
def NP(c:UInt8)(w:World):Calls Tryz.prog 146 #[.int .u8 (c.toNat:Int)] w fun e w'=>e=.returned (.bool (Im c))/\w=w':=by unfold Im;go_enter Tryz.func146,Tryz.ntmps146;exact da
def Ju(l:acM)(j:Nat)(h:j<(⟨l.toArray⟩:ByteArray).size):(⟨l.toArray⟩:ByteArray)[j]'h=l[j]'(by simpa[ByteArray.size]using h):=by show(l.toArray)[j]'_=_;simp
def FF(l:acM)(j:Nat):Bool:=match l[j]? with|none=>true|some c=>Im c||(j !=0&&vr c)
def Mj(l:acM):xN l=(l != []&&decide (∀j,j<l.length->FF l j=true)):=by
 cases l with
 |nil=>rfl
 |cons c r=>
  rw[zR];simp only[xN,rG,vY,rQ,rM];constructor
  ·rintro⟨m,n⟩;refine⟨bi,fun j e=> ?_⟩;cases j with
   |zero=>simp[FF,m]
   |succ j=>have i:j<r.length:=V;have:=n r[j] (rY i);simp only[I0,wN]at this;simp[FF,i];rcases this with h|h<;>simp[h]
  ·rintro⟨_,h⟩;have k:=h 0 V;refine⟨by simpa[FF]using k,fun d o=> ?_⟩;obtain⟨j,e,rfl⟩:=zy o;have:=h (j+1) V;simpa[FF,e,I0]using this
def DA(l:acM)(T:l.length<=1000000000)(w:World):Calls Tryz.prog 91 #[.string ⟨l.toArray⟩] w fun e w'=>e=.returned (.bool (xN l))/\w=w':=by
 have t:=Mj l;obtain⟨R,n⟩:∃R,R=xN l:=⟨_,rfl⟩;rw[<-n]at t|-;have z:=rq t;clear t n;go_enter Tryz.func91,Tryz.ntmps91;go_wp2_with fail;go_loop [3,6] (fun _ i=>∃j:Nat,i=.int .i64 j/\j<=l.length/\∀k,k<j->FF l k=true) (fun _ i=>l.length-(intOf i).toNat);case atStart=>exact⟨0,rfl,V,V⟩
 case
  round=>
   obtain⟨j,rfl,N,q⟩:=hrel;have y:=rq q;clear q;by_cases h:j<l.length
   ·have O:(j:Int)<l.length:=V;have L:=Ju l j (by simpa[ByteArray.size]using h);have r:FF l j=(Im l[j]||(j !=0&&vr l[j])):=by simp[FF,h]
    generalize l[j]=c at L r;have U:=c.toNat_lt;have m:=rq r;clear r;go_wp2_with fail;refine(NP c w).mono ?_;rintro e w' ⟨rfl,rfl⟩;have A:FF l j=true->∀k,k<j+1->FF l k=true:=fun h k q=>
     by
      rcases sX k j with C|C;·exact y.out k C
      ·obtain rfl:k=j:=V;exact h
    have bad:FF l j=false->R=false:=fun h=>by rw[z.out,Bv];right;simp only[Aq];intro M;have:=M j V;rw[h]at this;cases this
    have x:=rq A;have v:=rq bad;clear A bad;by_cases o:Im c=true
    ·go_wp2_with fail;go_round;case rel=>exact⟨j+1,bi,V,x.out (by rw[m.out,o];rfl)⟩
     case measure=>simp[intOf];omega
    ·have p:Im c=false:=by simpa using o
     clear o;rcases Nat.eq_zero_or_pos j with D|D;·subst D;obtain rfl:=v.out (by rw[m.out,p];rfl);exact bE
     ·have S:((j:Int)==0)=false:=by simp;omega
      by_cases d:vr c=true
      ·have E:¬(c.toNat:Int)<48:=by simp[vr]at d;omega
       have I:¬(57:Int)<(c.toNat:Int):=by simp[vr]at d;omega
       have F:=d;have H:=rq F;clear d F;go_wp2_with fail;go_round;case rel=>exact⟨j+1,bi,V,x.out (by rw[m.out,p,H.out];simp;omega)⟩
       case measure=>simp[intOf];omega
      ·have G:vr c=false:=by simpa using d
       obtain rfl:=v.out (by rw[m.out,p,G];simp);rcases(show(c.toNat:Int)<48\/(¬(c.toNat:Int)<48/\(57:Int)<(c.toNat:Int))by simp[vr]at d;omega)with E|⟨E,I⟩;all_goals clear d G;go_wp2_with fail;go_ret;exact⟨rfl,rfl⟩
   ·obtain rfl:j=l.length:=V;have n:R= !l.isEmpty:=by
     rw[z.out];have:decide (∀j,j<l.length->FF l j=true)=true:=by simpa using y.out
     rw[this,zJ];cases l<;>rfl
    subst n;clear N;exact bE
def wa(l:acM):Bool:=decide (l.length<=100)&&xN l
def z8(l:acM)(j:l.length<=1000000000)(w:World):Calls Tryz.prog 129 #[.string ⟨l.toArray⟩] w fun e w'=>e=.returned (.bool (wa l))/\w=w':=by
 unfold wa;by_cases h:l.length<=100;·have d:decide (l.length<=100)=true:=iE;rw[d,rU];have i:(l.length:Int)<=100:=V;clear h d;go_enter Gp,Tryz.ntmps129;go_wp2_with fail;refine(DA l j w).mono ?_;rintro e w' ⟨rfl,rfl⟩;exact bE
 ·have d:decide (l.length<=100)=false:=iE;rw[d,tx];have i:¬(l.length:Int)<=100:=V;clear h d;go_enter Gp,Tryz.ntmps129;exact bE
def wE:Bool->acM->Bool
 |st,[]=> !st
 |true,c::r=>Im c&&wE false r
 |false,c::r=>if c=46 then wE true r else I0 c&&wE false r
def vQ(l:acM):Bool:=decide (l.length<=100)&&wE true l
def Ha:Im 46=false:=bD
def LB:∀(l r:acM),46∉l->wE false (l++46::r)=(l.all I0&&wE true r)
 | [],r,_=>by simp[wE]
 |c::l,r,h=>
 by
  simp only[sg,NV]at h;have d:¬c=46:=fun e=>h.1 e.symm
  rw[sa];simp only[wE,ru d,LB l r h.2,Et,Bool.and_assoc]
def IQ:∀(l:acM),46∉l->wE false l=l.all I0
 | [],_=>rfl
 |c::l,h=>
 by
  simp only[sg,NV]at h;have d:¬c=46:=fun e=>h.1 e.symm
  simp only[wE,ru d,IQ l h.2,Et]
def Qp(l r:acM)(h:46∉l):wE true (l++46::r)=(xN l&&wE true r):=by
 cases l with
 |nil=>simp[wE,xN,Ha]
 |cons c l=>simp only[sg,NV]at h;rw[sa];simp only[wE,xN,LB l r h.2,Bool.and_assoc]
def BH(l:acM)(h:46∉l):wE true l=xN l:=by
 cases l with
 |nil=>rfl
 |cons c l=>simp only[sg,NV]at h;simp only[wE,xN,IQ l h.2]
def He{l:acM}{c:UInt8}(h:∀k:Nat,l[k]?≠some c):c∉l:=fun d=>by obtain⟨k,e⟩:=yO d;exact h k e
def Vt(l:acM):(46∉l/\Lib.cut l [46]=(l,[],false))\/(∃a b,l=a++46::b/\46∉a/\Lib.cut l [46]=(a,b,true)):=by
 unfold Lib.cut;rw[Lib.index_one];have p:=Lib.indexByte_ge l 46;by_cases h:Lib.indexByte l 46= -1;·left;rw[h];exact⟨He (Lib.indexByte_none h),rfl⟩
 ·right;obtain⟨e,d⟩:=tD (show 0<=Lib.indexByte l 46 from V);obtain⟨i,j⟩:=Lib.indexByte_some d;obtain⟨o,m⟩:=rK.1 i;refine⟨l.take e,l.drop (e+1),?_,He fun k=> ?_,?_⟩;·rw[<-m,<-rH o,Ib]
  ·rw[xP];split;·rename_i n;exact j k n
   ·simp
  ·rw[d,rv V];simp
def ue:List acM:=[[],[110,117,108,108],[98,111,111,108,101,97,110],[105,110,116],[108,111,110,103],[102,108,111,97,116],[100,111,117,98,108,101],[98,121,116,101,115],[115,116,114,105,110,103],[114,101,99,111,114,100],[101,110,117,109],[97,114,114,97,121],[109,97,112],[],[102,105,120,101,100]]
def vE(w:World):Prop:=(∃m,w.cell? ⟨1,0,none⟩=some (.int .i64 m))/\∀i l,ue[i]? =some l->w.cell? ⟨0,i,none⟩=some (.string ⟨l.toArray⟩)
def vE.below{w w':World}(h:vE w)(hb:acP w w'):vE w':=by obtain⟨⟨m,e⟩,j⟩:=h;exact⟨⟨m,(hb.cell (xy _ _ e)).trans e⟩,fun i l d=>(hb.cell (xy _ _ (j i l d))).trans (j i l d)⟩
def Uf:Value->Nat| .string b=>b.size|_=>0
def uJ(l:acM):(⟨l.toArray⟩:ByteArray).size=l.length:=by simp[ByteArray.size]
def Gg(l:acM)(D:l.length<=1000000000)(w:World)(o:vE w):Calls Tryz.prog 46 #[.string ⟨l.toArray⟩] w fun e w'=>e=.returned (.bool (vQ l))/\acP w w':=by
 unfold vQ;have x:=rq o;by_cases h:l.length<=100
 ·have n:decide (l.length<=100)=true:=iE;rw[n,rU];have z:¬(100:Int)<l.length:=V;obtain⟨R,p⟩:∃R,R=wE true l:=⟨_,rfl⟩;rw[<-p];have y:=rq p;clear h n p o;go_enter U0,Tryz.ntmps46;go_wp2_with fail;go_loopw [0] (fun s wr=>∃r:acM,s=.string ⟨r.toArray⟩/\r.length<=l.length/\R=wE true r/\acP w wr) (fun s _=>Uf s);case atStart=>exact⟨l,rfl,rN _,y.out,Below.refl _ _⟩
  case
   round=>
    obtain⟨r,rfl,A,d,AZ⟩:=hrel;obtain⟨⟨m,t⟩,_⟩:=x.out.below AZ;have i:=Tryz.strings_Cut ⟨r.toArray⟩ ⟨[46].toArray⟩ m wr (by rw[uJ];omega) t;simp only[]at i;rcases Vt r with⟨v,k⟩|⟨a,b,rfl,v,k⟩
    ·rw[k]at i;rw[BH r v]at d;have j:=rq d;clear d k t;go_wp2_with fail;refine i.mono ?_;rintro e w1 ⟨rfl,q,rfl⟩;go_wp2_with fail;refine(DA r V _).mono ?_;rintro e C ⟨rfl,rfl⟩;rw[<-j.out];clear i;cases R;·exact ib
     ·exact ib
    ·rw[k]at i;rw[Qp a b v]at d;rw[rC,rM]at A;have j:=rq d;clear d k t;go_wp2_with fail;refine i.mono ?_;rintro e w1 ⟨rfl,q,rfl⟩;go_wp2_with fail;refine(DA a V _).mono ?_;rintro e C ⟨rfl,rfl⟩;have d:=j.out;clear i j;generalize xN a=S at*;cases S;·rw[tx]at d;subst d;exact ib
     ·rw[rU]at d;have j:=rq d;clear d;go_wp2_with fail;go_roundw;case rel=>exact⟨b,rfl,V,j.out,AZ.drewN q⟩
      case measure=>simp[Uf,uJ]<;>omega
 ·have n:decide (l.length<=100)=false:=iE;rw[n,tx];have z:(100:Int)<l.length:=V;clear h n o;go_enter U0,Tryz.ntmps46;exact cU
def sE(l:acM):acM:=((l.reverse.dropWhile (·!=46)).drop 1).reverse
def xk(l:acM):acM:=(l.reverse.takeWhile (·!=46)).reverse
def Um:∀(l r:acM),46∉l->(l++46::r).takeWhile (·!=46)=l/\(l++46::r).dropWhile (·!=46)=46::r
 | [],r,_=>bi
 |c::l,r,h=>
 by
  simp only[sg,NV]at h;have d:(c !=46)=true:=by simp;exact fun e=>h.1 e.symm
  have:=Um l r h.2;simp[d,this]
def Px:∀(l:acM),46∉l->l.takeWhile (·!=46)=l/\l.dropWhile (·!=46)=[]
 | [],_=>bi
 |c::l,h=>
 by
  simp only[sg,NV]at h;have d:(c !=46)=true:=by simp;exact fun e=>h.1 e.symm
  have:=Px l h.2;simp[d,this]
def EW(a b:acM)(h:46∉b):sE (a++46::b)=a/\xk (a++46::b)=b:=by have d:46∉b.reverse:=dC;have e:(a++46::b).reverse=b.reverse++46::a.reverse:=bi;obtain⟨i,j⟩:=Um b.reverse a.reverse d;unfold sE xk;rw[e,i,j];simp
def BZ(l:acM)(h:46∉l):sE l=[]/\xk l=l:=by obtain⟨d,e⟩:=Px l.reverse dC;unfold sE xk;rw[d,e];simp
def LQ(l:acM):(46∉l/\Lib.lastIndexByte ⟨l.toArray⟩ 46= -1)\/(∃a b,l=a++46::b/\46∉b/\Lib.lastIndexByte ⟨l.toArray⟩ 46=(a.length:Nat)):=by
 have key:∀j,j<l.length->(((⟨l.toArray⟩:ByteArray).data[j]!).toNat:Int)=46->l[j]? =some 46:=fun j hj h=>by have e:(⟨l.toArray⟩:ByteArray).data[j]! =l[j]:=jg;rw[e]at h;rw[ry hj];congr 1;apply tC.1;have:(46:UInt8).toNat=46:=bD;omega
 have q:∀j,j<l.length->(((⟨l.toArray⟩:ByteArray).data[j]!).toNat:Int)≠46->l[j]?≠some 46:=fun j hj h m=>h (by have e:(⟨l.toArray⟩:ByteArray).data[j]! =l[j]:=jg;rw[e];rw[ry hj]at m;injection m with m;rw[m];decide)
 rcases Lib.lastIndexByte_spec ⟨l.toArray⟩ 46 with⟨n,o⟩|⟨i,n,o,r,p⟩
 ·left;refine⟨He fun k=> ?_,n⟩;by_cases d:k<l.length;·exact q k d (o k (by rw[uJ];exact d))
  ·rw[ta V];simp
 ·right;rw[uJ]at n p;have t:=key i n r;obtain⟨x,v⟩:=rK.1 t;refine⟨l.take i,l.drop (i+1),?_,He fun k=> ?_,?_⟩;·rw[<-v,<-rH x,Ib]
  ·rw[z6];by_cases d:i+1+k<l.length;·exact q _ d (p _ V d)
   ·rw[ta V];simp
  ·rw[o,xx];congr 1;omega
def Kn(l:acM)(i j:Nat):(⟨l.toArray⟩:ByteArray).extract i j=⟨((l.drop i).take (j-i)).toArray⟩:=by apply ByteArray.ext;simp[ByteArray.data_extract,List.extract_eq_drop_take]
def Bb(l:acM)(j:l.length<=1000000000)(w:World):Calls Tryz.prog 113 #[.string ⟨l.toArray⟩] w fun e w'=>e=.returned (.string ⟨(sE l).toArray⟩)/\w=w':=by
 have d:=Tryz.strings_LastIndexByte ⟨l.toArray⟩ 46 (by rw[uJ];omega) w;rcases LQ l with⟨i,h⟩|⟨a,b,rfl,i,h⟩;·rw[h]at d;rw[(BZ l i).1];clear h;go_enter Tryz.func113,Tryz.ntmps113;go_wp2_with fail;refine d.mono ?_;rintro e w1 ⟨rfl,rfl⟩;clear d;go_wp2_with fail;go_ret;exact⟨by simp[Kn];try omega,rfl⟩
 ·rw[h]at d;rw[(EW a b i).1];clear h;go_enter Tryz.func113,Tryz.ntmps113;go_wp2_with fail;refine d.mono ?_;rintro e w1 ⟨rfl,rfl⟩;clear d;go_wp2_with fail;go_ret;exact⟨by simp[Kn],rfl⟩
def R1(l:acM)(j:l.length<=1000000000)(w:World):Calls Tryz.prog 151 #[.string ⟨l.toArray⟩] w fun e w'=>e=.returned (.string ⟨(xk l).toArray⟩)/\w=w':=by
 have hc:=Tryz.strings_LastIndexByte ⟨l.toArray⟩ 46 (by rw[uJ];omega) w;rcases LQ l with⟨i,d⟩|⟨a,b,rfl,i,d⟩;·rw[d]at hc;rw[(BZ l i).2];clear d;exact mK
 ·rw[d]at hc;rw[(EW a b i).2];clear d;rw[rC,rM]at j;exact mK
def Ln(l m:acM):(⟨l.toArray⟩:ByteArray)++⟨m.toArray⟩=⟨(l++m).toArray⟩:=by apply ByteArray.ext;simp
def yw(d name:acM):Option acM:=if 46∈name then some name else if wa name=true then(if d=[]then some name else some (d++46::name))else none
def vv(d name:acM):Option acM:=match yw d name with|none=>none|some n=>if vQ n=true then some n else none
def Pb(d:Option acM):Value:=match d with|none=>.tuple #[.string ⟨#[]⟩,.bool false]|some n=>.tuple #[.string ⟨n.toArray⟩,.bool true]
def XX(l:acM):(46∈l->0<=Lib.indexByte l 46)/\(46∉l->Lib.indexByte l 46<0):=by
 have i:=Lib.indexByte_ge l 46;constructor
 ·intro h;by_cases d:Lib.indexByte l 46= -1;·exact absurd h (He (Lib.indexByte_none d))
  ·omega
 ·intro h;by_cases d:0<=Lib.indexByte l 46;·obtain⟨j,e⟩:=tD d;exact absurd (rL (Lib.indexByte_some e).1) h
  ·omega
def DH(s n:acM)(y:s.length<=400000000)(x:n.length<=400000000)(w:World)(o:vE w):Calls Tryz.prog 159 #[.string ⟨s.toArray⟩,.string ⟨n.toArray⟩] w fun e w'=>e=.returned (Pb (vv s n))/\acP w w':=by
 have hi:=Tryz.strings_IndexByte ⟨n.toArray⟩ 46 w;have d:=fun l h=>Gg l h w o
 have k:=XX n;simp only[show(46:Int).toNat.toUInt8=46 from bD]at hi;generalize Lib.indexByte n 46=r at hi k;unfold vv yw;by_cases j:46∈n;·rw[rv j];have q:=k.1 j;have hf:=d n V;clear d k j o;simp only[];generalize vQ n=F at*;go_enter Tryz.func159,Tryz.ntmps159;go_wp2_with fail;refine hi.mono ?_;rintro e w1 ⟨rfl,rfl⟩;clear hi;exact na
 ·rw[ru j];have q:=k.2 j;have QB:=z8 n V w;clear k j o;by_cases i:wa n=true
  ·rw[rv i];rw[i]at QB;by_cases m:s=[];·rw[rv m];have hf:=d n V;clear d i;subst m;simp only[];generalize vQ n=F at*;exact cO
   ·rw[ru m];have hf:=d (s++46::n) (by simp;omega);clear d i;simp only[];generalize vQ (s++46::n)=F at*;have v:s.isEmpty=false:=by cases s<;>simp_all
    have t:(⟨s.toArray⟩:ByteArray)++⟨#[46]⟩++⟨n.toArray⟩=⟨(s++46::n).toArray⟩:=by rw[show(⟨#[46]⟩:ByteArray)=⟨[46].toArray⟩from rfl,Ln,Ln];simp
    clear m;exact cO
  ·rw[ru i];have p:wa n=false:=by simpa using i
   rw[p]at QB;clear d i p;go_enter Tryz.func159,Tryz.ntmps159;go_wp2_with fail;refine hi.mono ?_;rintro e w1 ⟨rfl,rfl⟩;clear hi;go_wp2_with fail;refine QB.mono ?_;rintro e w1 ⟨rfl,rfl⟩;clear QB;go_wp2_with fail;go_ret2;exact nW
def yz(name h:acM)(e:Bool)(d:acM):Option acM:=if e=true then vv h name else vv d name
def K0(n s:acM)(g:Bool)(a:acM)(d:n.length<=400000000)(j:s.length<=400000000)(i:a.length<=400000000)(w:World)(hG:vE w):Calls Tryz.prog 209 #[.string ⟨n.toArray⟩,.string ⟨s.toArray⟩,.bool g,.string ⟨a.toArray⟩] w fun e w'=>e=.returned (Pb (yz n s g a))/\acP w w':=by
 unfold yz;cases g;·have hj:=DH a n i d w hG;rw[ru bi];generalize vv a n=J at*;exact dU
 ·have hj:=DH s n j d w hG;rw[rv rfl];generalize vv s n=J at*;exact dU
def tu(k:Int):acM:=if k<0\/15<=k then []else ue.getD k.toNat []
def wJ(l:acM):Nat->List acM->Nat
 |_,[]=>0
 |k,v::r=>if v=l/\l≠ []then k else wJ l (k+1) r
def wg(l:acM):Nat:=wJ l 0 ue
def Bd(k:Int)(w:World)(d:vE w):Calls Tryz.prog 68 #[.int .i64 k] w fun e w'=>e=.returned (.string ⟨(tu k).toArray⟩)/\w=w':=by
 unfold tu;rcases(show k<0\/(¬k<0/\15<=k)\/(0<=k/\k<15)from V)with h|⟨h,l⟩|⟨h,l⟩;·rw[rv (.inl h)];clear d;exact pm
 ·rw[rv (.inr l)];clear d;exact pm
 ·rw[ru V];obtain⟨i,rfl⟩:=tD h;have j:i<ue.length:=by simp[ue];omega
  have n:=d.2 i ue[i] (ry j);have e:ue.getD ((i:Int)).toNat []=ue[i]:=by simp[List.getD,j]
  rw[e];generalize ue[i]=L at*;have m:¬(15:Int)<=i:=V;clear d e j;exact pm
def DI(l:acM)(w:World)(k:vE w):Calls Tryz.prog 125 #[.string ⟨l.toArray⟩] w fun e w'=>e=.returned (.int .i64 (wg l))/\w=w':=by
 have c0:=k.2 0 _ rfl;have c1:=k.2 1 _ rfl;have c2:=k.2 2 _ rfl;have x:=k.2 3 _ rfl;have y:=k.2 4 _ rfl;have z:=k.2 5 _ rfl;have A:=k.2 6 _ rfl;have C:=k.2 7 _ rfl;have D:=k.2 8 _ rfl;have E:=k.2 9 _ rfl;have p:=k.2 10 _ rfl;have q:=k.2 11 _ rfl;have r:=k.2 12 _ rfl;have t:=k.2 13 _ rfl;have v:=k.2 14 _ rfl;have G:∀w,(Instr.index 207 (wA) (.int .i64 0)).run Tryz.prog w=.ok (.string ⟨#[]⟩) w:=fun _=>bg
 have H:∀w,(Instr.index 207 (wA) (.int .i64 1)).run Tryz.prog w=.ok (.string ⟨#[110,117,108,108]⟩) w:=fun _=>bg
 have S:∀w,(Instr.index 207 (wA) (.int .i64 2)).run Tryz.prog w=.ok (.string ⟨#[98,111,111,108,101,97,110]⟩) w:=fun _=>bg
 have T:∀w,(Instr.index 207 (wA) (.int .i64 3)).run Tryz.prog w=.ok (.string ⟨#[105,110,116]⟩) w:=fun _=>bg
 have U:∀w,(Instr.index 207 (wA) (.int .i64 4)).run Tryz.prog w=.ok (.string ⟨#[108,111,110,103]⟩) w:=fun _=>bg
 have W:∀w,(Instr.index 207 (wA) (.int .i64 5)).run Tryz.prog w=.ok (.string ⟨#[102,108,111,97,116]⟩) w:=fun _=>bg
 have X:∀w,(Instr.index 207 (wA) (.int .i64 6)).run Tryz.prog w=.ok (.string ⟨#[100,111,117,98,108,101]⟩) w:=fun _=>bg
 have Y:∀w,(Instr.index 207 (wA) (.int .i64 7)).run Tryz.prog w=.ok (.string ⟨#[98,121,116,101,115]⟩) w:=fun _=>bg
 have Z:∀w,(Instr.index 207 (wA) (.int .i64 8)).run Tryz.prog w=.ok (.string ⟨#[115,116,114,105,110,103]⟩) w:=fun _=>bg
 have a0:∀w,(Instr.index 207 (wA) (.int .i64 9)).run Tryz.prog w=.ok (.string ⟨#[114,101,99,111,114,100]⟩) w:=fun _=>bg
 have I:∀w,(Instr.index 207 (wA) (.int .i64 10)).run Tryz.prog w=.ok (.string ⟨#[101,110,117,109]⟩) w:=fun _=>bg
 have L:∀w,(Instr.index 207 (wA) (.int .i64 11)).run Tryz.prog w=.ok (.string ⟨#[97,114,114,97,121]⟩) w:=fun _=>bg
 have M:∀w,(Instr.index 207 (wA) (.int .i64 12)).run Tryz.prog w=.ok (.string ⟨#[109,97,112]⟩) w:=fun _=>bg
 have N:∀w,(Instr.index 207 (wA) (.int .i64 13)).run Tryz.prog w=.ok (.string ⟨#[]⟩) w:=fun _=>bg
 have O:∀w,(Instr.index 207 (wA) (.int .i64 14)).run Tryz.prog w=.ok (.string ⟨#[102,105,120,101,100]⟩) w:=fun _=>bg
 obtain⟨R,m⟩:∃R,R=wg l:=⟨_,rfl⟩;rw[<-m];have o:=rq m;clear m k;go_enter Tryz.func125,Tryz.ntmps125;go_wp2_with fail;go_loop [3,4,6] (fun _ _ i=>∃j:Nat,i=.int .i64 j/\j<=15/\R=wJ l j (ue.drop j)) (fun _ _ i=>15-(intOf i).toNat);case atStart=>exact⟨0,rfl,V,o.out⟩
 case
  round=>
   obtain⟨j,rfl,F,n⟩:=hrel;have d:=rq n;clear n;rcases(show j=0\/j=1\/j=2\/j=3\/j=4\/j=5\/j=6\/j=7\/j=8\/j=9\/j=10\/j=11\/j=12\/j=13\/j=14\/j=15 from V)with rfl|rfl|rfl|rfl|rfl|rfl|rfl|rfl|rfl|rfl|rfl|rfl|rfl|rfl|rfl|rfl
   ·have h:R=if []=l/\l≠ []then 0 else wJ l 1 (ue.drop 1):=d.out;clear d;rw[ru (fun h=>h.2 h.1.symm)]at h;have Az:=rq h;clear h;by_cases he:l=[];·subst he;exact mT
    ·exact mT
   ·have h:R=if [110,117,108,108]=l/\l≠ []then 1 else wJ l 2 (ue.drop 2):=d.out;clear d;by_cases he:[110,117,108,108]=l;·exact lJ
    ·rw[ru (fun h=>he h.1)]at h;have Az:=rq h;clear h;go_wp2_with fail;refine⟨?_,dG⟩;first|exact⟨2,by simp,V,Az.out⟩|exact⟨_,_,_,_,⟨2,rfl,V,Az.out⟩,rfl,rfl,rfl,rfl⟩
   ·have h:R=if [98,111,111,108,101,97,110]=l/\l≠ []then 2 else wJ l 3 (ue.drop 3):=d.out;clear d;by_cases he:[98,111,111,108,101,97,110]=l;·exact lJ
    ·rw[ru (fun h=>he h.1)]at h;have Az:=rq h;clear h;go_wp2_with fail;refine⟨?_,dG⟩;first|exact⟨3,by simp,V,Az.out⟩|exact⟨_,_,_,_,⟨3,rfl,V,Az.out⟩,rfl,rfl,rfl,rfl⟩
   ·have h:R=if [105,110,116]=l/\l≠ []then 3 else wJ l 4 (ue.drop 4):=d.out;clear d;by_cases he:[105,110,116]=l;·exact lJ
    ·rw[ru (fun h=>he h.1)]at h;have Az:=rq h;clear h;go_wp2_with fail;refine⟨?_,dG⟩;first|exact⟨4,by simp,V,Az.out⟩|exact⟨_,_,_,_,⟨4,rfl,V,Az.out⟩,rfl,rfl,rfl,rfl⟩
   ·have h:R=if [108,111,110,103]=l/\l≠ []then 4 else wJ l 5 (ue.drop 5):=d.out;clear d;by_cases he:[108,111,110,103]=l;·exact lJ
    ·rw[ru (fun h=>he h.1)]at h;have Az:=rq h;clear h;go_wp2_with fail;refine⟨?_,dG⟩;first|exact⟨5,by simp,V,Az.out⟩|exact⟨_,_,_,_,⟨5,rfl,V,Az.out⟩,rfl,rfl,rfl,rfl⟩
   ·have h:R=if [102,108,111,97,116]=l/\l≠ []then 5 else wJ l 6 (ue.drop 6):=d.out;clear d;by_cases he:[102,108,111,97,116]=l;·exact lJ
    ·rw[ru (fun h=>he h.1)]at h;have Az:=rq h;clear h;go_wp2_with fail;refine⟨?_,dG⟩;first|exact⟨6,by simp,V,Az.out⟩|exact⟨_,_,_,_,⟨6,rfl,V,Az.out⟩,rfl,rfl,rfl,rfl⟩
   ·have h:R=if [100,111,117,98,108,101]=l/\l≠ []then 6 else wJ l 7 (ue.drop 7):=d.out;clear d;by_cases he:[100,111,117,98,108,101]=l;·exact lJ
    ·rw[ru (fun h=>he h.1)]at h;have Az:=rq h;clear h;go_wp2_with fail;refine⟨?_,dG⟩;first|exact⟨7,by simp,V,Az.out⟩|exact⟨_,_,_,_,⟨7,rfl,V,Az.out⟩,rfl,rfl,rfl,rfl⟩
   ·have h:R=if [98,121,116,101,115]=l/\l≠ []then 7 else wJ l 8 (ue.drop 8):=d.out;clear d;by_cases he:[98,121,116,101,115]=l;·exact lJ
    ·rw[ru (fun h=>he h.1)]at h;have Az:=rq h;clear h;go_wp2_with fail;refine⟨?_,dG⟩;first|exact⟨8,by simp,V,Az.out⟩|exact⟨_,_,_,_,⟨8,rfl,V,Az.out⟩,rfl,rfl,rfl,rfl⟩
   ·have h:R=if [115,116,114,105,110,103]=l/\l≠ []then 8 else wJ l 9 (ue.drop 9):=d.out;clear d;by_cases he:[115,116,114,105,110,103]=l;·exact lJ
    ·rw[ru (fun h=>he h.1)]at h;have Az:=rq h;clear h;go_wp2_with fail;refine⟨?_,dG⟩;first|exact⟨9,by simp,V,Az.out⟩|exact⟨_,_,_,_,⟨9,rfl,V,Az.out⟩,rfl,rfl,rfl,rfl⟩
   ·have h:R=if [114,101,99,111,114,100]=l/\l≠ []then 9 else wJ l 10 (ue.drop 10):=d.out;clear d;by_cases he:[114,101,99,111,114,100]=l;·exact lJ
    ·rw[ru (fun h=>he h.1)]at h;have Az:=rq h;clear h;go_wp2_with fail;refine⟨?_,dG⟩;first|exact⟨10,by simp,V,Az.out⟩|exact⟨_,_,_,_,⟨10,rfl,V,Az.out⟩,rfl,rfl,rfl,rfl⟩
   ·have h:R=if [101,110,117,109]=l/\l≠ []then 10 else wJ l 11 (ue.drop 11):=d.out;clear d;by_cases he:[101,110,117,109]=l;·exact lJ
    ·rw[ru (fun h=>he h.1)]at h;have Az:=rq h;clear h;go_wp2_with fail;refine⟨?_,dG⟩;first|exact⟨11,by simp,V,Az.out⟩|exact⟨_,_,_,_,⟨11,rfl,V,Az.out⟩,rfl,rfl,rfl,rfl⟩
   ·have h:R=if [97,114,114,97,121]=l/\l≠ []then 11 else wJ l 12 (ue.drop 12):=d.out;clear d;by_cases he:[97,114,114,97,121]=l;·exact lJ
    ·rw[ru (fun h=>he h.1)]at h;have Az:=rq h;clear h;go_wp2_with fail;refine⟨?_,dG⟩;first|exact⟨12,by simp,V,Az.out⟩|exact⟨_,_,_,_,⟨12,rfl,V,Az.out⟩,rfl,rfl,rfl,rfl⟩
   ·have h:R=if [109,97,112]=l/\l≠ []then 12 else wJ l 13 (ue.drop 13):=d.out;clear d;by_cases he:[109,97,112]=l;·exact lJ
    ·rw[ru (fun h=>he h.1)]at h;have Az:=rq h;clear h;go_wp2_with fail;refine⟨?_,dG⟩;first|exact⟨13,by simp,V,Az.out⟩|exact⟨_,_,_,_,⟨13,rfl,V,Az.out⟩,rfl,rfl,rfl,rfl⟩
   ·have h:R=if []=l/\l≠ []then 13 else wJ l 14 (ue.drop 14):=d.out;clear d;rw[ru (fun h=>h.2 h.1.symm)]at h;have Az:=rq h;clear h;by_cases he:l=[];·subst he;exact mS
    ·exact mS
   ·have h:R=if [102,105,120,101,100]=l/\l≠ []then 14 else wJ l 15 (ue.drop 15):=d.out;clear d;by_cases he:[102,105,120,101,100]=l;·exact lJ
    ·rw[ru (fun h=>he h.1)]at h;have Az:=rq h;clear h;go_wp2_with fail;refine⟨?_,dG⟩;first|exact⟨15,by simp,V,Az.out⟩|exact⟨_,_,_,_,⟨15,rfl,V,Az.out⟩,rfl,rfl,rfl,rfl⟩
   ·have h:R=0:=d.out;subst h;exact bE
end Go.Proofs.YtccjlcadbpinfaaGreatDoor.Tp
namespace Go.Proofs.YtccjlcadbpinfaaGreatDoor.Can
open Go.RowKit
open Num Mem
structure rS(g B:Nat)(w w':World):Prop where
 env:w'.os=w.os/\w'.tape=w.tape/\w'.output=w.output
 size:w.heap.size<=w'.heap.size
 block:∀k,k<B->k≠g->w'.heap[k]? =w.heap[k]?
section
variable{g B B':Nat}{a b w w':World}
def rS.refl(g B:Nat)(w:World):rS g B w w:=⟨⟨rfl,rfl,rfl⟩,rN _,fun _ _ _=>rfl⟩
def rS.trans(h:rS g B a b)(k:rS g B b w):rS g B a w:=⟨⟨k.env.1.trans h.env.1,k.env.2.1.trans h.env.2.1,k.env.2.2.trans h.env.2.2⟩,sG h.size k.size,fun i e d=>(k.block i e d).trans (h.block i e d)⟩
def rS.mono(h:rS g B w w')(d:B'<=B):rS g B' w w':=⟨h.env,h.size,fun k i e=>h.block k (sj i d) e⟩
def rS.of(h:Below B w w'):rS g B w w':=⟨⟨h.os,h.tape,h.output⟩,h.size,fun k d _=>h.block k d⟩
def rS.below(h:rS g B w w')(d:B'<=B)(e:B'<=g):Below B' w w':=⟨h.env.1,h.env.2.1,h.env.2.2,h.size,fun k i=>h.block k V V⟩
def rS.sV(h:rS g B a b)(d:B<=b.heap.size)(k:rS g b.heap.size b w):rS g B a w:=h.trans (k.mono d)
def rS.cell(h:rS g B w w'){p:Addr}(e:p.block<B)(d:p.block≠g):w'.cell? p=w.cell? p:=rD (w:=w) (h.block p.block e d)
def rS.frozen(h:rS g B w w'){p:Addr}(e:p.block<B)(d:p.block≠g):w'.frozen? p=w.frozen? p:=sA (w:=w) (h.block p.block e d)
def rS.drew(h:rS g B a w):rS g B a w.drew:=⟨h.env,h.size,h.block⟩
def rS.alloc(h:rS g B a w)(e:B<=w.heap.size)(d:Obj):rS g B a (w.alloc d):=h.trans (rS.of ((Below.refl B w).alloc e d))
def rS.setAt(h:rS g B a w)(i:Nat)(u:Value):rS g B a (w.setCell ⟨g,i,none⟩ u):=h.trans ⟨⟨rfl,rfl,rfl⟩,by simp[World.setCell],fun k _ d=>Below.heap_setCell w ⟨g,i,none⟩ u k d⟩
def rS.wM(h:rS g B a w){p:Addr}(d:B<=p.block)(u:Value):rS g B a (w.setCell p u):=h.trans (rS.of ((Below.refl B w).setCell d u))
def _root_.Go.Proofs.YtccjlcadbpinfaaGreatDoor.Mem.Rd.off{n:Nat}{A:acN}{xs:acM}(h:Rd w B A n xs)(d:rS g B' w w')(e:B<=B')(i:B<=g):Rd w' B A n xs:=h.keep fun _ _=>d.cell V V
def _root_.Go.Proofs.YtccjlcadbpinfaaGreatDoor.Mem.Own.off{d n c:Nat}{A:acN}{xs:acM}(h:Own w d A n c xs)(m:rS g w.heap.size w w')(p:g<d):Own w' d A n c xs:=by
 obtain⟨l,e⟩:=h;refine⟨l,?_⟩;rcases e with e|⟨k,cap,j,o,hb,i,r⟩;·exact .inl e
 ·refine .inr ⟨k,cap,j,o,hb,?_,r⟩;rw[m.block k (by rw[uh]at i;exact i.1) V];exact i
end
structure zZ(K:Nat->World->World->Prop):Prop where
 refl:∀B w,K B w w
 trans:∀{B a b c},K B a b->K B b c->K B a c
 mono:∀{B B' a b},K B a b->B'<=B->K B' a b
structure uK(X:Addr->Prop)(B:Nat)(w w':World):Prop where
 size:w.heap.size<=w'.heap.size
 cell:∀p,p.block<B->¬X p->w'.cell? p=w.cell? p
 frozen:∀p,p.block<B->¬X p->w'.frozen? p=w.frozen? p
def uK.keeps(X:Addr->Prop):zZ (uK X):=⟨fun _ _=>⟨rN _,fun _ _ _=>rfl,fun _ _ _=>rfl⟩,fun h k=>⟨sG h.size k.size,fun p d e=>(k.cell p d e).trans (h.cell p d e),fun p d e=>(k.frozen p d e).trans (h.frozen p d e)⟩,fun h i=>⟨h.size,fun p d e=>h.cell p (sj d i) e,fun p d e=>h.frozen p (sj d i) e⟩⟩
def uK.of{X:Addr->Prop}{B:Nat}{w w':World}(h:Below B w w'):uK X B w w':=⟨h.size,fun _ d _=>h.cell d,fun _ d _=>h.frozen d⟩
def uK.refl(X:Addr->Prop)(B:Nat)(w:World):uK X B w w:=(uK.keeps X).refl B w
def uK.mono{X:Addr->Prop}{B B':Nat}{w w':World}(h:uK X B w w')(d:B'<=B):uK X B' w w':=(uK.keeps X).mono h d
def uK.trans{X:Addr->Prop}{B:Nat}{a b c:World}(h:uK X B a b)(k:uK X B b c):uK X B a c:=(uK.keeps X).trans h k
def Below.keeps:zZ Below:=⟨fun B w=>Below.refl B w,fun h k=>h.trans k,fun h d=>h.mono d⟩
section
variable{P:Program}{ops:Array Oper}{Q:Exit->Act->World->Prop}{mk:List Nat}{K:Nat->World->World->Prop}
def wy(P:Program)(ops:Array Oper)(Q:Exit->Act->World->Prop)(mk:List Nat)(K:Nat->World->World->Prop):sk->Nat->Act->World->Prop
 | .nil,_,a,w=>Q .normal a w
 | .cons i p,h,a,w=>∃k,ops[i]? =some k/\∃d,h<=d/\if mk.contains i then wpOp P ops Q i (fun e w'=>K d w w'/\wy P ops Q mk K p d e w') a w else∃v,YieldsIf P ops (K d w) k v a/\wy P ops Q mk K p d (a.put k.dst v) w
 | .fork i p j q,h,a,w=>∃d,h<=d/\wpOp P ops Q i (fun e w'=>K d w w'/\wy P ops Q mk K p d e w') a w/\wpOp P ops Q j (fun e w'=>K d w w'/\wy P ops Q mk K q d e w') a w
def xT(m:zZ K)(D:Region.noSelect ops=true)(C:∀c(a:Act) d v w,Q (.panic c) (a.put d v) w->Q (.panic c) a w):∀(y:sk)(e z:Nat)(t:Array Bool)(a:Act)(w:World),y.deep<=e->Ak ops mk y t=true->wy P ops Q mk K y z a w->wpAnyH P .any ops Q (K z w) e t a w
 | .nil,e,z,t,a,w,_,r,h=>wpAnyH_done (by simpa[Ak]using r) h e
 | .cons i y,e,z,t,a,w,hf,r,h=>
 by
  obtain⟨e,rfl⟩:∃k,e=k+1:=⟨e-1,eI⟩;simp only[sk.deep,Nat.add_le_add_iff_right]at hf;obtain⟨W,R,o,H,G⟩:=h;simp only[Ak,rG]at r;obtain⟨n,F⟩:=r;refine xZ (S':=K o w) (fun w' hb=>m.mono hb H) _ _ _ _ ?_;by_cases L:mk.contains i=true
  ·rw[rv L]at n G;have I:Region.ready .any ops t=[i]:=by simpa using n
   refine wpAnyH_all I bi fun j hj=> ?_
   obtain rfl:j=i:=fu;refine uB (fun A w' l=>⟨l.1,?_⟩) G;exact xZ (fun x E=>m.trans l.1 E) _ _ _ _ (xT m D C y e o _ A w' hf F l.2)
  ·rw[ru L]at n G;simp only[rG]at n;obtain⟨v,U,T⟩:=G;exact wpAnyH_take R D n.1 n.2 (fun c a w=>C c a _ v w) U (m.refl _ _) (xT m D C y e o _ _ w hf F T)
 | .fork i p j q,e,z,t,a,w,hf,r,h=>
 by
  obtain⟨e,rfl⟩:∃k,e=k+1:=⟨e-1,eI⟩;simp only[sk.deep,Nat.add_le_add_iff_right]at hf;obtain⟨o,H,M,N⟩:=h;simp only[Ak,rG]at r;obtain⟨⟨O,n⟩,F⟩:=r;refine xZ (S':=K o w) (fun w' hb=>m.mono hb H) _ _ _ _ ?_;have I:Region.ready .any ops t=[i,j]:=by simpa using O
  refine wpAnyH_all I bi fun k hk=> ?_
  have S:k=i\/k=j:=jx;rcases S with rfl|rfl;·refine uB (fun A w' l=>⟨l.1,?_⟩) M;exact xZ (fun x E=>m.trans l.1 E) _ _ _ _ (xT m D C p e o _ A w' V n l.2)
  ·refine uB (fun A w' l=>⟨l.1,?_⟩) N;exact xZ (fun x E=>m.trans l.1 E) _ _ _ _ (xT m D C q e o _ A w' V F l.2)
def td(i:zZ K){o:Nat}{a:Act}{w:World}(e:sk)(mk:List Nat)(m:P.follows .mixedOrders=true)(n:Region.noSelect ops=true)(l:e.deep<=ops.size)(k:Ak ops mk e (Array.replicate ops.size false)=true)(j:∀c(a:Act) d v w,Q (.panic c) (a.put d v) w->Q (.panic c) a w)(h:∀wd:World,acP w wd->wd.heap.size=w.heap.size->wy P ops Q mk K e 0 a wd):(Code.region o ops true).wp P Q a w:=wp_region_held (S:=K 0 w.drew) m (xT i n j e _ 0 _ a _ l k (h w.drew vK.drew rfl))
def zB{i j:Nat}{p q:sk}{m:Nat}{a:Act}{w:World}{r t:Option Tmp}{y z:Op}{ty D:TypeId}{A C:String}{n o:Array Edge}{v x:Option (Nat×Bool)}(H:ops[i]? =some ⟨r,y,ty,A,n,v⟩)(I:ops[j]? =some ⟨t,z,D,C,o,x⟩)(h:Nat)(G:m<=h)(E:∀d:Exit->Act->World->Prop,(∀e w',K h w w'->wy P ops Q mk K p h e w'->d .normal e w')->wpList P ops d [⟨r,y,ty,A,n,v⟩] a w)(F:∀d:Exit->Act->World->Prop,(∀e w',K h w w'->wy P ops Q mk K q h e w'->d .normal e w')->wpList P ops d [⟨t,z,D,C,o,x⟩] a w):wy P ops Q mk K (.fork i p j q) m a w:=⟨h,G,yb H (fun d k=>E d (fun e w' hb l=>k e w' ⟨hb,l⟩)),yb I (fun d k=>F d (fun e w' hb l=>k e w' ⟨hb,l⟩))⟩
def ua{i:Nat}{n:sk}{e:Nat}{a:Act}{w:World}{d:Option Tmp}{l:Op}{ty:TypeId}{m:String}{j:Array Edge}{k:Option (Nat×Bool)}(p:mk.contains i=false)(o:ops[i]? =some ⟨d,l,ty,m,j,k⟩)(hw:Region.wanted ⟨d,l,ty,m,j,k⟩ (yielded ops a.tmps)=true){v:Value}(hy:∀w',(execOp a.eval ⟨d,l,ty,m,j,k⟩).run P w'=.ok (.value v) w')(h:wy P ops Q mk K n e (a.put d v) w):wy P ops Q mk K (.cons i n) e a w:=⟨_,o,e,rN _,by rw[p,ru bi];exact iI⟩
def uk{i:Nat}{o:sk}{n:Nat}{a:Act}{w:World}{e:Option Tmp}{l:Op}{ty:TypeId}{m:String}{j:Array Edge}{k:Option (Nat×Bool)}(r:mk.contains i=false)(q:ops[i]? =some ⟨e,l,ty,m,j,k⟩)(hw:Region.wanted ⟨e,l,ty,m,j,k⟩ (yielded ops a.tmps)=true)(d:Nat)(p:n<=d)(v:Value)(hy:∀w',K d w w'->(execOp a.eval ⟨e,l,ty,m,j,k⟩).run P w'=.ok (.value v) w')(h:wy P ops Q mk K o d (a.put e v) w):wy P ops Q mk K (.cons i o) n a w:=⟨_,q,d,p,by rw[r,ru bi];exact iJ⟩
def sI{d:Nat}{a:Act}{w:World}(h:Q .normal a w):wy P ops Q mk K .nil d a w:=h
def uq{i:Nat}{n:sk}{d:Nat}{a:Act}{w:World}{e:Option Tmp}{l:Op}{ty:TypeId}{m:String}{j:Array Edge}{k:Option (Nat×Bool)}(p:mk.contains i=false)(o:ops[i]? =some ⟨e,l,ty,m,j,k⟩)(hw:Region.wanted ⟨e,l,ty,m,j,k⟩ (yielded ops a.tmps)=false)(h:wy P ops Q mk K n d (a.put e undef) w):wy P ops Q mk K (.cons i n) d a w:=⟨_,o,d,rN _,by rw[p,ru bi];exact jV⟩
def rZ{i:Nat}{o:sk}{e:Nat}{a:Act}{w:World}{k:Option Tmp}{m:Op}{ty:TypeId}{n:String}{j:Array Edge}{l:Option (Nat×Bool)}(hm:mk.contains i=true)(hi:ops[i]? =some ⟨k,m,ty,n,j,l⟩)(d:Nat)(p:e<=d)(h:∀Q':Exit->Act->World->Prop,(∀a' w',K d w w'->wy P ops Q mk K o d a' w'->Q' .normal a' w')->wpList P ops Q' [⟨k,m,ty,n,j,l⟩] a w):wy P ops Q mk K (.cons i o) e a w:=⟨_,hi,d,p,gg⟩
end
