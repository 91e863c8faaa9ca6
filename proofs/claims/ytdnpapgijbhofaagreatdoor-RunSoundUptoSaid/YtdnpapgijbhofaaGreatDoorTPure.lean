/- The data of the chain, as plain inductive types, and how they lie in m -/
import Derived.Test.YtdnpapgijbhofaaGreatDoorLibD
import Derived.IntWalk
set_option linter.defProp false
set_option linter.unusedVariables false
set_option linter.unusedSimpArgs false
namespace Go.cM
def gF{n:Int}(h1 : -9223372036854775808<=n)(h2:n<=9223372036854775807):IntKind.i64.wrap n=n:=IntWalk.i64_in n ⟨h1,h2⟩
inductive Ty where
 |mk (T:Int) (args:List Ty)
 deriving Inhabited
inductive Nd where
 |mk (kind n p:Int) (s:List UInt8) (args:List Nd)
 deriving Inhabited
inductive Vl where
 |mk (k n a:Int) (s:List UInt8) (args:List Vl) (types:List Ty) (code:List Nd)
 deriving Inhabited
abbrev aE(n:Int):CV := .int .i64 n
mutual
def er:Ty->CV
 |.mk T J => .agg [.int .i64 T,.sl 2 (au J)]
def au:L Ty->L CV
 |[]=>[]
 |t::l=>er t::au l
end
mutual
def aY:Nd->CV
 |.mk P n p s J => .agg [.int .i64 P,.int .i64 n,.int .i64 p,.str s,.sl 5 (aG J)]
def aG:L Nd->L CV
 |[]=>[]
 |t::l=>aY t::aG l
end
mutual
def bO:Vl->CV
 |.mk k n a s J Y W => .agg [.int .i64 k,.int .i64 n,.int .i64 a,.str s,.sl 7 (aa J),.sl 2 (au Y),.sl 5 (aG W)]
def aa:L Vl->L CV
 |[]=>[]
 |t::l=>bO t::aa l
end
def vR:∀(l:L Ty)(i:Nat),(au l)[i]?=l[i]?.map er
 |[],i=>by simp[au]
 |t::l,0=>by simp[au]
 |t::l,i+1=>by simp[au,vR l i]
def aR:∀(l:L Ty),(au l).length=l.length
 |[]=>rfl
 |t::l=>by simp[au,aR l]
def Bc:∀(l:L Nd)(i:Nat),(aG l)[i]?=l[i]?.map aY
 |[],i=>by simp[aG]
 |t::l,0=>by simp[aG]
 |t::l,i+1=>by simp[aG,Bc l i]
def bq:∀(l:L Nd),(aG l).length=l.length
 |[]=>rfl
 |t::l=>by simp[aG,bq l]
def ja:∀(l:L Vl)(i:Nat),(aa l)[i]?=l[i]?.map bO
 |[],i=>by simp[aa]
 |t::l,0=>by simp[aa]
 |t::l,i+1=>by simp[aa,ja l i]
def aB:∀(l:L Vl),(aa l).length=l.length
 |[]=>rfl
 |t::l=>by simp[aa,aB l]
abbrev Mh(n:Int):Prop := -9223372036854775808<=n/\n<=9223372036854775807
mutual
def XC:Ty->Prop
 |.mk T J=>Mh T/\Ew J
def Ew:L Ty->Prop
 |[]=>True
 |t::l=>XC t/\Ew l
end
mutual
def Ta:Nd->Prop
 |.mk P n p _ J=>Mh P/\Mh n/\Mh p/\Mk J
def Mk:L Nd->Prop
 |[]=>True
 |t::l=>Ta t/\Mk l
end
mutual
def XE:Vl->Prop
 |.mk k n a _ J Y W=>Mh k/\Mh n/\Mh a/\IB J/\Ew Y/\Mk W
def IB:L Vl->Prop
 |[]=>True
 |t::l=>XE t/\IB l
end
mutual
def bw:Ty->Nat
 |.mk _ J=>bg J+1
def bg:L Ty->Nat
 |[]=>0
 |t::l=>bw t+bg l
end
mutual
def bZ:Nd->Nat
 |.mk _ _ _ s J=>s.length+aS J+1
def aS:L Nd->Nat
 |[]=>0
 |t::l=>bZ t+aS l
end
mutual
def aO:Vl->Nat
 |.mk _ _ _ s J Y W=>s.length+aK J+bg Y+aS W+1
def aK:L Vl->Nat
 |[]=>0
 |t::l=>aO t+aK l
end
def LG(t:Ty):1<=bw t:=by cases t;simp[bw]
def CU(t:Nd):1<=bZ t:=by cases t;simp[bZ]
def LH(t:Vl):1<=aO t:=by cases t;simp[aO]
def gV:∀(l:L Ty),l.length<=bg l
 |[]=>aav _
 |t::l=>by have:=LG t;have:=gV l;simp only[aac,bg];omega
def gu:∀(l:L Nd),l.length<=aS l
 |[]=>aav _
 |t::l=>by have:=CU t;have:=gu l;simp only[aac,aS];omega
def iN:∀(l:L Vl),l.length<=aK l
 |[]=>aav _
 |t::l=>by have:=LH t;have:=iN l;simp only[aac,aK];omega
def cA:∀{l:L Ty}{x:Ty},x∈l->bw x<=bg l
 |[],x,h=>by simp at h
 |t::l,x,h=>by
  simp only[bg];rcases List.mem_cons.1 h with rfl|h
  ·omega
  ·have:=cA h;omega
def eM:∀{l:L Nd}{x:Nd},x∈l->bZ x<=aS l
 |[],x,h=>by simp at h
 |t::l,x,h=>by
  simp only[aS];rcases List.mem_cons.1 h with rfl|h
  ·omega
  ·have:=eM h;omega
def ee:∀{l:L Vl}{x:Vl},x∈l->aO x<=aK l
 |[],x,h=>by simp at h
 |t::l,x,h=>by
  simp only[aK];rcases List.mem_cons.1 h with rfl|h
  ·omega
  ·have:=ee h;omega
def arity(t:Int):Int :=
 if t=1\/t=2\/t=3\/t=4\/t=5\/t=6\/t=7\/t=8 then 0 else if t=9\/t=10\/t=15 then 1 else if t=11\/t=12\/t=13\/t=14 then 2 else -1
mutual
def rH(p:Int->Bool):Ty->Bool
 |.mk T J=>p T&&nh p J
def nh(p:Int->Bool):L Ty->Bool
 |[]=>true
 |t::l=>rH p t&&nh p l
end
def wZ(t:Int):Bool:=t != 8&&t != 10&&t != 13&&t != 14&&t != 15&&decide (arity t>=0)
def qB(t:Int):Bool:=t != 8&&t != 14&&t != 15
def fq(t:Ty):Bool:=rH wZ t
def fO(t:Ty):Bool:=rH qB t
mutual
def BD(p:Int->Bool):Ty->Bool
 |.mk T J=>if T=14 then true else p T&&Fq p J
def Fq(p:Int->Bool):L Ty->Bool
 |[]=>true
 |t::l=>BD p t&&Fq p l
end
def PY(t:Int):Bool:=t != 15&&t != 8
def Ke(t:Int):Bool:=t != 8
def kH(t:Ty):Bool:=BD PY t
def iV(t:Ty):Bool:=BD Ke t
def jE:L Ty->Bool
 |[]=>false
 |t::_=>fq t
mutual
def eF:Ty->Int->Int->Bool×Int
 |.mk T J,d,n=>if d>24\/n+1>300\/arity T≠J.length then(false,n+1)else
  match dJ J (d+1) (n+1)with
  |(true,m)=>(if T=13\/T=15 then jE J else true,m)
  |(false,m)=>(false,m)
def dJ:L Ty->Int->Int->Bool×Int
 |[],_,n=>(true,n)
 |t::l,d,n=>match eF t d n with
  |(true,m)=>dJ l d m
  |(false,m)=>(false,m)
end
def br(t:Ty):Bool:=(eF t 1 0).1
mutual
def qp:∀(t:Ty)(d n:Int),n<=300->n<(eF t d n).2/\(eF t d n).2<=301/\((eF t d n).1=true->(eF t d n).2<=300)
 |.mk T J,d,n,E=>by
  simp only[eF];split
  ·refine⟨ot,ot,ek⟩
  ·rename_i h;have O:=EL J (d+1) (n+1) bn;split
   ·rename_i m Y;rw[Y]at O;have:=O.2.2 Z;refine⟨u6,by simp only at this ⊢;omega,λ_=>this⟩
   ·rename_i m Y;rw[Y]at O;refine⟨u6,O.2.1,ek⟩
def EL:∀(l:L Ty)(d n:Int),n<=300->n<=(dJ l d n).2/\(dJ l d n).2<=301/\((dJ l d n).1=true->(dJ l d n).2<=300)
 |[],d,n,E=>by simp only[dJ];exact⟨bn,bn,λ_=>E⟩
 |t::l,d,n,E=>by
  have O:=qp t d n E;simp only[dJ];split
  ·rename_i m Y;rw[Y]at O;have h1:=O.2.2 Z;have h2:=O.1;simp only at h1 h2;have W:=EL l d m h1;exact⟨bn,W.2⟩
  ·rename_i m Y;rw[Y]at O;have h1:=O.1;have h2:=O.2.1;simp only at h1 h2;exact⟨rE,h2,ek⟩
end
mutual
def fj:Nd->Int->Int->Option Ty×Int
 |.mk P n p s J,d,left=>if left-1<0\/d>24\/P≠2\/n≠0\/s≠[]\/arity p≠J.length then(none,left-1)else
  match dK J (d+1) (left-1)with
  |(some l,m)=>(some (.mk p l),m)
  |(none,m)=>(none,m)
def dK:L Nd->Int->Int->Option (L Ty)×Int
 |[],_,left=>(some [],left)
 |x::l,d,left=>match fj x d left with
  |(some t,m)=>match dK l d m with
   |(some r,Y)=>(some (t::r),Y)
   |(none,Y)=>(none,Y)
  |(none,m)=>(none,m)
end
mutual
def DR:∀(t:Nd)(d n:Int),0<=n->(fj t d n).2<n /\ -1<=(fj t d n).2/\((fj t d n).1≠none->0<=(fj t d n).2)
 |.mk P T p s J,d,n,E=>by
  simp only[fj];split
  ·refine⟨ot,ot,ek⟩
  ·rename_i h;have O:=CW J (d+1) (n-1) bn;split
   ·rename_i l m W;rw[W]at O;have:=O.2.2 ek;exact⟨u6,by simp only at this ⊢;omega,λ_=>this⟩
   ·rename_i m W;rw[W]at O;exact⟨u6,O.2.1,ek⟩
def CW:∀(l:L Nd)(d n:Int),0<=n->(dK l d n).2<=n /\ -1<=(dK l d n).2/\((dK l d n).1≠none->0<=(dK l d n).2)
 |[],d,n,E=>by simp only[dK];exact⟨bn,bn,λ_=>E⟩
 |t::l,d,n,E=>by
  have O:=DR t d n E;simp only[dK];split
  ·rename_i y m W;rw[W]at O;have h1:=O.2.2 ek;have h2:=O.1;simp only at h1 h2;have Y:=CW l d m h1;split
   ·rename_i r U V;rw[V]at Y;have:=Y.1;simp only at this;exact⟨rE,Y.2.1,λ_=>Y.2.2 ek⟩
   ·rename_i U V;rw[V]at Y;have:=Y.1;simp only at this;exact⟨rE,Y.2.1,ek⟩
  ·rename_i m W;rw[W]at O;have h1:=O.1;have h2:=O.2.1;simp only at h1 h2;exact⟨rE,h2,ek⟩
end
def aW(n:Nd):Ty×Int:=match (fj n 1 300).1 with
 |some t=>if br t then(t,0)else(.mk 0 [],1)
 |none=>(.mk 0 [],1)
mutual
def NW:Ty->Nd
 |.mk T J => .mk 2 0 T [] (Ig J)
def Ig:L Ty->L Nd
 |[]=>[]
 |t::l=>NW t::Ig l
end
def qV:Nd := .mk 0 0 0 [] []
def kG:Ty := .mk 0 []
def Xt(t:Ty):Nd×Int:=if br t then(NW t,0)else(qV,1)
mutual
def cP:Ty->Ty->Bool
 |.mk T l,.mk U r=>T==U&&gG l r
def gG:L Ty->L Ty->Bool
 |[],[]=>true
 |t::l,u::r=>cP t u&&gG l r
 |_,_=>false
end
mutual
def Bo:Nd->Nd->Bool
 |.mk a b c s l,.mk Y Q J U W=>a==Y&&b==Q&&c==J&&s==U&&xV l W
def xV:L Nd->L Nd->Bool
 |[],[]=>true
 |t::l,u::r=>Bo t u&&xV l r
 |_,_=>false
end
mutual
def fS:∀(t u:Ty),cP t u=true↔t=u
 |.mk T l,.mk U r=>by simp[cP,nA l r]
def nA:∀(t u:L Ty),gG t u=true↔t=u
 |[],[]=>by simp[gG]
 |[],_::_=>by simp[gG]
 |_::_,[]=>by simp[gG]
 |t::l,u::r=>by simp[gG,fS t u,nA l r]
end
mutual
def Uk:Ty->Bool
 |.mk T J=>decide (arity T>=0)&&RE J
def RE:L Ty->Bool
 |[]=>true
 |t::l=>Uk t&&RE l
end
mutual
def Ul(Y:Bool)(q:L Int):Ty->Bool
 |.mk T J=>if q.contains T then false else if T=14/\Y=false then true else RF Y q J
def RF(Y:Bool)(q:L Int):L Ty->Bool
 |[]=>true
 |t::l=>Ul Y q t&&RF Y q l
end
def aaX(t:Ty):Bool:=Uk t&&Ul true [8,10,13,14,15] t
mutual
def vE:Ty->Int->Int->Bool×Int
 |.mk T J,d,left=>if d=0\/left=0\/arity T≠J.length then(false,0)else
  match qj J (d-1) (left-1)with
  |(true,m)=>(if T=13\/T=15 then jE J else true,m)
  |(false,_)=>(false,0)
def qj:L Ty->Int->Int->Bool×Int
 |[],_,left=>(true,left)
 |t::l,d,left=>match vE t d left with
  |(true,m)=>qj l d m
  |(false,_)=>(false,0)
end
mutual
def Jk:∀(t:Ty)(d n:Int),d<=25->n<=300->(vE t (25-d) (300-n)).1=(eF t d n).1/\((eF t d n).1=true->(vE t (25-d) (300-n)).2=300-(eF t d n).2)
 |.mk T J,d,n,Y,E=>by
  simp only[eF,vE];by_cases h:d>24\/n+1>300\/arity T≠J.length
  ·rw[if_pos h,if_pos bn];simp
  ·rw[if_neg h,if_neg bn];have O:=EM J (d+1) (n+1) bn bn;rw[show 25-(d+1)=25-d-1 from by omega,show 300-(n+1)=300-n-1 from by omega]at O;rcases W:dJ J (d+1) (n+1)with ⟨b,m⟩
   rcases K:qj J (25-d-1) (300-n-1)with ⟨V,U⟩
   rw[W,K]at O;obtain⟨C,Q⟩:=O;simp only at C Q;subst C;cases V
   ·simp
   ·simp only;exact⟨trivial,λ_=>Q Z⟩
def EM:∀(l:L Ty)(d n:Int),d<=25->n<=300->(qj l (25-d) (300-n)).1=(dJ l d n).1/\((dJ l d n).1=true->(qj l (25-d) (300-n)).2=300-(dJ l d n).2)
 |[],d,n,Y,E=>by simp[dJ,qj]
 |t::l,d,n,Y,E=>by
  have O:=Jk t d n Y E;have D:=qp t d n E;simp only[dJ,qj];rcases W:eF t d n with ⟨b,m⟩
  rcases K:vE t (25-d) (300-n)with ⟨V,U⟩
  rw[W,K]at O;rw[W]at D;obtain⟨C,Q⟩:=O;simp only at C Q D;subst C;cases V
  ·simp
  ·simp only;rw[Q rfl];exact EM l d m Y (D.2.2 Z)
end
def EN(t:Ty):(vE t 24 300).1=br t:=by
 have:=(Jk t 1 0 bn bn).1;simpa[br]using this
mutual
def RG:Nd->Int->Int->Ty×Int
 |.mk P n p s J,d,left=>if P≠2\/n≠0\/s≠[]\/d=0\/left-1<0 then(kG,left-1)else
  match RH J (d-1) (left-1)with
  |(l,m)=>(.mk p l,m)
def RH:L Nd->Int->Int->L Ty×Int
 |[],_,left=>([],left)
 |x::l,d,left=>match RG x d left with
  |(t,m)=>match RH l d m with
   |(r,Y)=>(t::r,Y)
end
mutual
def fV:Ty->Bool
 |.mk T J=>decide (arity T≠J.length)||lX J
def lX:L Ty->Bool
 |[]=>false
 |t::l=>fV t||lX l
end
mutual
def CX:∀(t:Ty)(d n:Int),fV t=true->(vE t d n).1=false
 |.mk T J,d,n,h=>by
  simp only[vE];split
  ·rfl
  ·rename_i A;simp only[fV,aaz,Z5]at h;have h2:lX J=true:=by
    rcases h with h|h
    ·omega
    ·exact h
   have O:=EO J (d-1) (n-1) h2;rcases E:qj J (d-1) (n-1)with ⟨b,m⟩
   rw[E]at O;simp only at O;subst O;rfl
def EO:∀(l:L Ty)(d n:Int),lX l=true->(qj l d n).1=false
 |[],d,n,h=>by simp[lX]at h
 |t::l,d,n,h=>by
  simp only[lX,aaz]at h;simp only[qj];rcases E:vE t d n with ⟨b,m⟩
  cases b
  ·rfl
  ·have h2:lX l=true:=by
    rcases h with h|h
    ·have:=CX t d n h;rw[E]at this;simp at this
    ·exact h
   exact EO l d m h2
end
def aab(n:Nd):Ty×Int:=if(vE (RG n 24 300).1 24 300).1 then((RG n 24 300).1,0)else(.mk 0 [],1)
abbrev bL:Int:=1152921504606846976
def pW(p:Int):Bool:=decide ((1<=p/\p<=15)\/(20<=p/\p<=28)\/(40<=p/\p<=95))
def fT(P n p:Int)(s:L UInt8)(k:Nat)(d:Int):Int :=
 if d>24 then 4
 else if P<0\/P>3\/P=2/\pW p=false then 3
 else if P≠0/\n≠0\/P≠2/\p≠0\/P≠1/\s≠[]\/P<2/\0<k then 1
 else if n < -bL\/n>bL then 2
 else if 200<s.length then 4 else 0
mutual
def ef:Nd->Int->Int
 |.mk P n p s J,d=>if fT P n p s J.length d=0 then cY J (d+1)else fT P n p s J.length d
def cY:L Nd->Int->Int
 |[],_=>0
 |x::l,d=>if ef x d=0 then cY l d else ef x d
end
mutual
def many:Nd->Nat
 |.mk _ _ _ _ J=>cF J+1
def cF:L Nd->Nat
 |[]=>0
 |x::l=>many x+cF l
end
def dD(n:Nd):Int:=if ef n 1=0 then(if 300<many n then 4 else 0)else ef n 1
def zn(c m:Nat):L UInt8 :=
 if m=0 then [byteOf (c:Nat)]else byteOf ((c+128:Nat):Int)::zn (m%128) (m/128)
termination_by m
decreasing_by omega
def iC(n:Int):L UInt8:=zn ((if n<0 then 64 else 0)+n.natAbs%64) (n.natAbs/64)
mutual
def dQ:Nd->L UInt8
 |.mk P n p s J =>
  if P=0 then byteOf P::iC n
  else if P=1 then byteOf P::(iC (s.length:Int)++s)
  else if P=2 then byteOf P::byteOf p::(iC (J.length:Int)++eI J)
  else byteOf P::(iC (J.length:Int)++eI J)
def eI:L Nd->L UInt8
 |[]=>[]
 |x::l=>dQ x++eI l
end
def GF(n:Nd):L UInt8×Int:=if dD n=0 then(dQ n,0)else([],dD n)
def oZ:L UInt8->Nat->Nat->Option (Nat×L UInt8)
 |[],_,_=>none
 |b::s,n,sh=>if b.toNat=0\/sh>55 then none
  else if b.toNat>=128 then oZ s (n+b.toNat%128*2^sh) (sh+7)else some (n+b.toNat%128*2^sh,s)
def kj(b:UInt8)(s:L UInt8):Option (Nat×L UInt8):=if b.toNat>=128 then oZ s (b.toNat%64) 6 else some (b.toNat%64,s)
def eK:L UInt8->Option (Int×L UInt8)
 |[]=>none
 |b::s=>match kj b s with
  |none=>none
  |some (n,r)=>if(b.toNat/64%2=1/\n=0)\/n>1152921504606846976 then none else some (if b.toNat/64%2=1 then -(n:Int)else n,r)
def hM(c:Nat)(h:c<256):(byteOf (c:Int)).toNat=c:=by
 have:=mw (c:Int);rw[show IntKind.u8.wrap (c:Int)=c from by simp[IntKind.wrap,IntKind.bits,IntKind.signed];omega]at this;omega
def ko(b:UInt8):byteOf ((b.toNat:Nat):Int)=b:=by
 apply UInt8.toNat_inj.1;rw[hM _ b.toNat_lt]
def lD(c:Nat):zn c 0=[byteOf (c:Nat)]:=by rw[zn];simp
def mM(c m:Nat)(h:m≠0):zn c m=byteOf ((c+128:Nat):Int)::zn (m%128) (m/128):=by rw[zn,if_neg h]
def OC:∀(m c n p:Nat)(r:L UInt8),c<128->c+128*m≠0->p%7=6->(c+128*m)*2^p<=2^60->oZ (zn c m++r) n p=some (n+(c+128*m)*2^p,r):=by
 intro m
 induction m using Nat.strongRecOn with
 |ind m O =>
  intro c n p r U H S A;have T:p<=60:=by
   have h1:2^p<=2^60:=aaG (Nat.le_mul_of_pos_left _ bn) A;exact(Nat.pow_le_pow_iff_right bn).1 h1
  by_cases W:m=0
  ·subst W;rw[lD];simp only[Zy,aaV,oZ];rw[hM _ bn,if_neg bn,if_neg bn,abK U];simp
  ·rw[mM _ _ W];simp only[Zy,oZ];rw[hM _ bn,if_neg bn,if_pos bn];have e:(c+128)%128=c:=by omega
   have Y:m%128+128*(m/128)=m:=by omega
   have V:2^(p+7)=128*2^p:=by rw[Nat.pow_add];omega
   rw[e,O (m/128) bn (m%128) _ _ r bn bn bn (by
    rw[Y,V];refine aaG ?_ A;rw[<- Nat.mul_assoc,Nat.mul_comm m 128]
    exact abk _ bn)]
   rw[Y,V];congr 2;rw[abp,acp,<- Nat.mul_assoc,Nat.mul_comm m 128]
def CY:∀(s:L UInt8)(n p v:Nat)(r:L UInt8),oZ s n p=some (v,r)->∃c m,c<128/\c+128*m≠0/\s=zn c m++r/\v=n+(c+128*m)*2^p
 |[],n,p,v,r,h=>by simp[oZ]at h
 |b::s,n,p,v,r,h=>by
  have A:=b.toNat_lt;simp only[oZ]at h;split at h
  ·simp at h
  ·rename_i H;split at h
   ·rename_i h1;obtain⟨c,m,W,Y,V,B⟩:=CY s _ _ v r h;have U:2^(p+7)=128*2^p:=by rw[Nat.pow_add];omega
    refine⟨b.toNat%128,c+128*m,bn,bn,?_,?_⟩
    ·rw[mM _ _ Y,show(c+128*m)%128=c from by omega,show(c+128*m)/128=m from by omega,show b.toNat%128+128=b.toNat from by omega,ko,V];rfl
    ·grind
   ·rename_i h1;simp at h;refine⟨b.toNat,0,bn,bn,?_,?_⟩
    ·rw[lD,ko,h.2];rfl
    ·grind
def pX(n:Int)(r:L UInt8)(h1 : -bL<=n)(h2:n<=bL):eK (iC n++r)=some (n,r):=by
 have H:n.natAbs<=1152921504606846976:=by unfold bL at h1 h2;omega
 unfold iC;generalize V:(if n<0 then 64 else 0:Nat)=sg;have W:(sg=64/\n<0)\/(sg=0/\0<=n):=by split at V<;>omega
 generalize I:n.natAbs=a at H ⊢;by_cases Y:a/64=0
 ·rw[Y,lD];simp only[Zy,aaV,eK,kj];rw[hM _ bn,if_neg bn];simp only;rw[if_neg bn];simp only[aaJ,aaW,abM];split<;>omega
 ·rw[mM _ _ Y];simp only[Zy,eK,kj]
  rw[hM _ bn,if_pos bn,OC _ _ _ _ _ bn bn bn (by
   rw[show a/64%128+128*(a/64/128)=a/64 from by omega];omega)]
  simp only;rw[show a/64%128+128*(a/64/128)=a/64 from by omega];have e:(sg+a%64+128)%64+a/64*2^6=a:=by omega
  rw[e,if_neg bn];simp only[aaJ,aaW,abM];split<;>omega
def lY{s:L UInt8}{n:Int}{r:L UInt8}(h:eK s=some (n,r)):s=iC n++r /\ -bL<=n/\n<=bL:=by
 cases s with
 |nil=>simp[eK]at h
 |cons b s =>
  have U:=b.toNat_lt;simp only[eK]at h;split at h
  ·simp at h
  ·rename_i v O B;split at h
   ·simp at h
   ·rename_i E;simp only[aaJ,aaW]at h;obtain⟨h1,rfl⟩:=h;unfold bL;unfold kj at B;split at B
    ·rename_i A;obtain⟨c,m,T,q,Y,W⟩:=CY _ _ _ _ _ B;have H:n.natAbs=v:=by split at h1<;>omega
     refine⟨?_,Wg,Wg⟩;unfold iC;rw[H];have C:v/64=c+128*m:=by omega
     have Q:v%64=b.toNat%64:=by omega
     rw[C,Q,mM _ _ q,show(c+128*m)%128=c from by omega,show(c+128*m)/128=m from by omega,Y];have V:(if n<0 then 64 else 0:Nat)+b.toNat%64+128=b.toNat:=by split at h1<;>split<;>omega
     rw[V,ko];rfl
    ·rename_i A;simp at B;obtain⟨B,rfl⟩:=B;have H:n.natAbs=v:=by split at h1<;>omega
     refine⟨?_,Wg,Wg⟩;unfold iC;rw[H,show v/64=0 from by omega,lD,show v%64=b.toNat%64 from by omega];have V:(if n<0 then 64 else 0:Nat)+b.toNat%64=b.toNat:=by split at h1<;>split<;>omega
     rw[V,ko];rfl
def GG{s:L UInt8}{n:Int}{r:L UInt8}(t:L UInt8)(h:eK s=some (n,r)):eK (s++t)=some (n,r++t):=by
 obtain⟨h1,h2,K⟩:=lY h;rw[h1,aaQ];exact pX n (r++t) h2 K
inductive Rd (α:Type) where
 |ok (a:α) (s:List UInt8) (left:Nat)
 |no (e:Int)
def lZ(f:L UInt8->Nat->Rd Nd):Nat->L UInt8->Nat->Rd (L Nd)
 |0,s,left => .ok [] s left
 |k+1,s,left=>match f s left with
  |.no e => .no e
  |.ok x U Y=>match lZ f k U Y with
   |.no e => .no e
   |.ok l Q W => .ok (x::l) Q W
def nH(f:L UInt8->Nat->Rd Nd)(P p:Int)(s:L UInt8)(left:Nat):Rd Nd :=
 match eK s with
 |none => .no 1
 |some (k,U)=>if k<0 then .no 1 else match lZ f k.toNat U left with
  |.no e => .no e
  |.ok l Q Y => .ok (.mk P 0 p [] l) Q Y
def qk(f:L UInt8->Nat->Rd Nd)(c:Nat)(s:L UInt8)(left:Nat):Rd Nd :=
 if c=0 then(match eK s with
  |none => .no 1
  |some (n,U) => .ok (.mk 0 n 0 [] []) U left)
 else if c=1 then(match eK s with
  |none => .no 1
  |some (n,U)=>if n<0\/n>200\/n>U.length then .no 1 else .ok (.mk 1 0 0 (U.take n.toNat) []) (U.drop n.toNat) left)
 else if c=2 then(match s with
  |[] => .no 1
  |p::U=>if pW p.toNat=true then nH f 2 p.toNat U left else .no 1)
 else if c=3 then nH f 3 0 s left
 else .no 1
def eT:Nat->L UInt8->Nat->Rd Nd
 |0,_,_ => .no 4
 |g+1,s,left=>if left=0 then .no 4 else match s with
  |[] => .no 1
  |c::s'=>qk (eT g) c.toNat s' (left-1)
def eH(s:L UInt8):Nd×Int:=match eT 24 s 300 with
 |.no e=>(qV,e)
 |.ok n r _=>if r=[]then(n,0)else(qV,1)
def Sv(n:Int):iC n≠[]:=by
 unfold iC;rw[zn];split<;>simp
def EP:∀l:L Nd,l.length<=cF l
 |[]=>aav _
 |.mk _ _ _ _ _::l=>by have:=EP l;simp only[aac,cF,many];omega
def jf{P n p:Int}{s:L UInt8}{J:L Nd}{d:Int}(h:ef (.mk P n p s J) d=0):fT P n p s J.length d=0/\cY J (d+1)=0:=by
 simp only[ef]at h;by_cases Y:fT P n p s J.length d=0
 ·omega
 ·omega
def lp{P n p:Int}{s:L UInt8}{k:Nat}{d:Int}(h:fT P n p s k d=0) :
  d<=24/\(P=0\/P=1\/P=2/\pW p=true\/P=3)/\(P≠0->n=0)/\(P≠2->p=0)/\(P≠1->s=[])/\(P<2->k=0) /\ -bL<=n/\n<=bL/\s.length<=200:=by
 unfold fT at h;split at h
 ·omega
 ·split at h
  ·omega
  ·grind
def vg{P n p:Int}{s:L UInt8}{k:Nat}{d:Int}(H:d<=24)(h1:P=0\/P=1\/P=2/\pW p=true\/P=3)(h2:P≠0->n=0)(K:P≠2->p=0)(W:P≠1->s=[])(Y:P<2->k=0)(V : -bL<=n)(U:n<=bL)(T:s.length<=200):fT P n p s k d=0:=by
 unfold fT;rw[if_neg bn,if_neg,if_neg,if_neg bn,if_neg bn]
 ·simp_all
 ·grind
def Jl{p:Int}(h:pW p=true):1<=p/\p<=95:=by
 unfold pW at h;have:=Zo h;omega
def xW:∀(g:Nat)(n:Nd)(r:L UInt8)(left:Nat),left<=300->ef n (25-g)=0->many n<=left->eT g (dQ n++r) left = .ok n r (left-many n)
 |0,.mk P n p s args,r,left,hl,h,W=>by
  have:=(lp (jf h).1).1;omega
 |g+1,.mk P n p s args,r,left,hl,h,W=>by
  obtain⟨h1,h2⟩:=jf h;obtain⟨hd,J,E,D,V,O,H,T,nI⟩:=lp h1;simp only[many]at W ⊢;have hf:∀(n:Nd)(r:L UInt8)(Y:Nat),Y<=300->ef n (25-g)=0->many n<=Y->eT g (dQ n++r) Y = .ok n r (Y-many n):=λn r Y=>xW g n r Y;have U:∀(l:L Nd)(r:L UInt8)(Y:Nat),Y<=300->cY l (25-g)=0->cF l<=Y->lZ (eT g) l.length (eI l++r) Y = .ok l r (Y-cF l):=by
   intro l
   induction l with
   |nil=>intro r Y _ _ _;simp[lZ,eI,cF]
   |cons x l G =>
    intro r Y S h W;simp only[cY]at h;simp only[cF]at W;have I:ef x (25-g)=0:=by by_cases N:ef x (25-g)=0;exact N;rw[if_neg N]at h;exact h
    rw[if_pos I]at h;simp only[aac,lZ,eI,aaQ,cF];rw[hf x _ Y S I bn];simp only;rw[G r _ bn h bn];simp only[Nat.sub_sub]
  have Q:∀(P p:Int),cY args (25-g)=0->nH (eT g) P p (iC (args.length:Int)++eI args++r) (left-1) = .ok (.mk P 0 p [] args) r (left-1-cF args):=by
   intro P p C;have:=EP args;unfold nH;rw[aaQ,pX _ _ j0 j0];simp only;rw[if_neg bn,show((args.length:Nat):Int).toNat=args.length from by omega,U args r (left-1) bn C bn]
  have M:cY args (25-g)=0:=by rw[<- h2];congr 1;omega
  have e:left-(cF args+1)=left-1-cF args:=by omega
  rw[e];simp only[eT];rw[if_neg bn];have B:(byteOf 0).toNat=0:=rfl;have A:(byteOf 1).toNat=1:=rfl;have u:(byteOf 2).toNat=2:=rfl;have b3:(byteOf 3).toNat=3:=rfl;rcases J with rfl|rfl|⟨rfl,K⟩|rfl
  ·have:=O bn;rw[abA]at this;subst this;obtain rfl:=D bn;obtain rfl:=V bn;simp only[dQ,if_true,Zy,qk,B];rw[pX _ _ H T];simp[cF]
  ·have:=O bn;rw[abA]at this;subst this;obtain rfl:=D bn;obtain rfl:=E bn;simp only[dQ,show ¬((1:Int)=0)from by omega,abg,if_true,Zy,qk,A,show ¬((1:Nat)=0)from by omega];rw[aaQ,pX _ _ j0 j0];simp only;rw[if_neg X9];simp[cF]
  ·obtain rfl:=E bn;obtain rfl:=V bn;have IZ:=Jl K;have Yk:(byteOf p).toNat=p:=by
    obtain⟨q,rfl⟩:∃q:Nat,p=q:=⟨p.toNat,bn⟩
    rw[hM _ bn]
   simp only[dQ,show ¬((2:Int)=0)from by omega,show ¬((2:Int)=1)from by omega,abg,if_true,Zy,qk,u,show ¬((2:Nat)=0)from by omega,show ¬((2:Nat)=1)from by omega];rw[Yk,if_pos K,Q 2 p M]
  ·obtain rfl:=E bn;obtain rfl:=V bn;obtain rfl:=D bn;simp only[dQ,show ¬((3:Int)=0)from by omega,show ¬((3:Int)=1)from by omega,show ¬((3:Int)=2)from by omega,abg,if_true,Zy,qk,b3,show ¬((3:Nat)=0)from by omega,show ¬((3:Nat)=1)from by omega,show ¬((3:Nat)=2)from by omega];rw[Q 3 0 M]
def vh:∀(g:Nat)(s:L UInt8)(left:Nat)(n:Nd)(r:L UInt8)(Y:Nat),g<=24->eT g s left = .ok n r Y->s=dQ n++r/\ef n (25-g)=0/\left=Y+many n
 |0,s,left,n,r,Y,_,h=>by simp[eT]at h
 |g+1,s,left,n,r,Y,hg,h=>by
  have D:=λs left n r Y=>vh g s left n r Y bn;have U:∀(k:Nat)(s:L UInt8)(left:Nat)(l:L Nd)(r:L UInt8)(Y:Nat),lZ (eT g) k s left = .ok l r Y->s=eI l++r/\cY l (25-g)=0/\left=Y+cF l/\l.length=k:=by
   intro k
   induction k with
   |zero=>intro s left l r Y h;simp[lZ]at h;obtain⟨rfl,rfl,rfl⟩:=h;simp[eI,cY,cF]
   |succ k K =>
    intro s left l r Y h;simp only[lZ]at h;split at h
    ·simp at h
    ·rename_i x s1 l1 C;split at h
     ·simp at h
     ·rename_i l2 q CZ B;simp at h;obtain⟨rfl,rfl,rfl⟩:=h;obtain⟨e1,e2,e3⟩:=D _ _ _ _ _ C;obtain⟨M,N,G,J⟩:=K _ _ _ _ _ B;refine⟨?_,?_,?_,?_⟩
      ·rw[e1,M];simp[eI]
      ·simp[cY,e2,N]
      ·simp only[cF];omega
      ·simp[J]
  have Q:∀(P p:Int)(s:L UInt8)(left:Nat)(n:Nd)(r:L UInt8)(Y:Nat),nH (eT g) P p s left = .ok n r Y->∃l,n = .mk P 0 p [] l/\s=iC (l.length:Int)++eI l++r/\cY l (25-g)=0/\left=Y+cF l:=by
   intro P p s left n r Y h;unfold nH at h;split at h
   ·simp at h
   ·rename_i k I hk;split at h
    ·simp at h
    ·rename_i vr;split at h
     ·simp at h
     ·rename_i l q CZ B;simp at h;obtain⟨rfl,rfl,rfl⟩:=h;obtain⟨M,N,G,J⟩:=U _ _ _ _ _ _ B;obtain⟨O,_,_⟩:=lY hk;refine⟨l,Z,?_,N,G⟩;rw[O,M,J,aaQ,show((k.toNat:Nat):Int)=k from by omega]
  simp only[eT]at h;split at h
  ·simp at h
  ·rename_i B;cases s with
   |nil=>simp at h
   |cons c s =>
    simp only at h;have S:(25-((g+1:Nat):Int))<=24:=by omega
    have T:(25-((g+1:Nat):Int))+1=25-(g:Int):=by omega
    have W:=ko c;unfold qk at h;split at h
    ·rename_i A;split at h
     ·simp at h
     ·rename_i v I H;simp at h;obtain⟨rfl,rfl,rfl⟩:=h;obtain⟨O,u,E⟩:=lY H;refine⟨?_,?_,by simp only[many,cF];omega⟩
      ·simp only[dQ,if_true];rw[O,<- W,A];rfl
      ·simp only[ef];rw[if_pos (vg S (.inl Z) ek ek ek ek u E ek)];rfl
    ·rename_i hc0;split at h
     ·rename_i A;split at h
      ·simp at h
      ·rename_i v I H;split at h
       ·simp at h
       ·rename_i GO;simp at h;obtain⟨rfl,rfl,rfl⟩:=h;obtain⟨O,u,E⟩:=lY H;have V:(I.take v.toNat).length=v.toNat:=by rw[ZQ];omega
        refine⟨?_,?_,by simp only[many,cF];omega⟩
        ·simp only[dQ,show ¬((1:Int)=0)from by omega,abg,if_true];rw[V,show((v.toNat:Nat):Int)=v from by omega,O,<- W,A];simp[aaQ]
        ·simp only[ef];rw[if_pos (vg S (.inr (.inl Z)) ek ek ek ek j0 j0 (by rw[V];omega))];rfl
     ·rename_i AD;split at h
      ·rename_i A;cases s with
       |nil=>simp at h
       |cons p s =>
        simp only at h;split at h
        ·rename_i hp;obtain⟨l,rfl,M,N,G⟩:=Q _ _ _ _ _ _ _ h;have Um:=ko p;refine⟨?_,?_,by simp only[many];omega⟩
         ·simp only[dQ,show ¬((2:Int)=0)from by omega,show ¬((2:Int)=1)from by omega,abg,if_true];rw[M,Um,<- W,A];rfl
         ·simp only[ef];rw[if_pos (vg S (.inr (.inr (.inl ⟨Z,hp⟩))) ek ek ek ek j0 j0 ek),T];exact N
        ·simp at h
      ·rename_i uU;split at h
       ·rename_i A;obtain⟨l,rfl,M,N,G⟩:=Q _ _ _ _ _ _ _ h;refine⟨?_,?_,by simp only[many];omega⟩
        ·simp only[dQ,show ¬((3:Int)=0)from by omega,show ¬((3:Int)=1)from by omega,show ¬((3:Int)=2)from by omega,abg];rw[M,<- W,A];rfl
        ·simp only[ef];rw[if_pos (vg S (.inr (.inr (.inr Z))) ek ek ek ek j0 j0 ek),T];exact N
       ·simp at h
def Jm{g:Nat}{s:L UInt8}(t:L UInt8){left:Nat}{n:Nd}{r:L UInt8}{Y:Nat}(p:g<=24)(B:left<=300)(h:eT g s left = .ok n r Y):eT g (s++t) left = .ok n (r++t) Y:=by
 obtain⟨h1,h2,K⟩:=vh g s left n r Y p h;rw[h1,aaQ,xW g n (r++t) left B h2 bn,show left-many n=Y from by omega]
def ES:∀(g:Nat)(s:L UInt8)(left:Nat)(e:Int),g<=24->left<=300->eT g s left = .no e->e=1\/e=4/\∀t,eT g (s++t) left = .no 4
 |0,s,left,e,_,_,h=>by simp[eT]at h;right;exact⟨h.symm,λt=>rfl⟩
 |g+1,s,left,e,hg,aaZ,h=>by
  have U:∀(k:Nat)(s:L UInt8)(left:Nat)(e:Int),left<=300->lZ (eT g) k s left = .no e->e=1\/e=4/\∀t,lZ (eT g) k (s++t) left = .no 4:=by
   intro k
   induction k with
   |zero=>intro s left e _ h;simp[lZ]at h
   |succ k T =>
    intro s left e B h;simp only[lZ]at h;split at h
    ·rename_i C Y;simp at h;subst h;refine(ES g s left _ bn B Y).imp id λ⟨h1,h2⟩=>⟨h1,λt=>?_⟩
     simp only[lZ,h2 t]
    ·rename_i x u O I;have J:=(vh g _ _ _ _ _ bn I).2.2;split at h
     ·rename_i C Y;simp at h;subst h;refine(T u O _ bn Y).imp id λ⟨h1,h2⟩=>⟨h1,λt=>?_⟩
      simp only[lZ,Jm t bn B I,h2 t]
     ·simp at h
  have Q:∀(P p:Int)(s:L UInt8)(left:Nat)(e:Int),left<=300->nH (eT g) P p s left = .no e->e=1\/e=4/\∀t,nH (eT g) P p (s++t) left = .no 4:=by
   intro P p s left e B h;unfold nH at h;split at h
   ·simp_all
   ·rename_i k H D;split at h
    ·simp_all
    ·rename_i N;split at h
     ·rename_i C Y;simp at h;subst h;refine(U _ _ _ _ B Y).imp id λ⟨h1,h2⟩=>⟨h1,λt=>?_⟩
      unfold nH;rw[GG t D];simp only;rw[if_neg N,h2 t]
     ·simp at h
  simp only[eT]at h;split at h
  ·rename_i V;simp at h;subst h;right;exact⟨Z,λt=>by simp only[eT,if_pos V]⟩
  ·rename_i V;cases s with
   |nil=>simp at h;exact .inl h.symm
   |cons c s =>
    simp only at h;unfold qk at h;split at h
    ·grind
    ·rename_i W;split at h
     ·grind
     ·rename_i S;split at h
      ·rename_i q;cases s with
       |nil=>simp at h;exact .inl h.symm
       |cons p s =>
        simp only at h;split at h
        ·rename_i M;refine(Q _ _ _ _ _ bn h).imp id λ⟨h1,h2⟩=>⟨h1,λt=>?_⟩
         simp only[eT,if_neg V,Zy,qk,if_neg W,if_neg S,if_pos q,if_pos M,h2 t]
        ·simp_all
      ·rename_i q;split at h
       ·rename_i K;refine(Q _ _ _ _ _ bn h).imp id λ⟨h1,h2⟩=>⟨h1,λt=>?_⟩
        simp only[eT,if_neg V,Zy,qk,if_neg W,if_neg S,if_neg q,if_pos K,h2 t]
       ·simp_all
def jH{n:Nd}:dD n=0↔ef n 1=0/\many n<=300:=by
 unfold dD;split
 ·omega
 ·rename_i h;simp[h]
def Fe{s:L UInt8}(h:(eH s).2=0):dD (eH s).1=0/\dQ (eH s).1=s:=by
 unfold eH at h ⊢;split at h
 ·rename_i e S;simp at h;subst h;have:=ES 24 s 300 0 bn bn S;omega
 ·rename_i n r l K;obtain⟨h1,h2,Y⟩:=vh 24 _ _ _ _ _ bn K;split at h
  ·rename_i E;simp only[if_pos E];refine⟨jH.2 ⟨h2,bn⟩,by rw[h1,E,Zc]⟩
  ·simp at h
def Hu{s:L UInt8}(h:(eH s).2≠0):(eH s).1=qV:=by
 unfold eH at h ⊢;split at h
 ·rfl
 ·grind
end Go.cM
