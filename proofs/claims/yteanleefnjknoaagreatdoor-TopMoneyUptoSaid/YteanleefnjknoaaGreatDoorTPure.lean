/- The data of the chain, as plain inductive types, and how they lie in m -/
import Derived.Test.YteanleefnjknoaaGreatDoorLibD
import Derived.IntWalk
set_option linter.defProp false
namespace Go.cK
def iy{n:Int}(h1 : -9223372036854775808<=n)(h2:n<=9223372036854775807):IntKind.i64.wrap n=n:=IntWalk.i64_in n ⟨h1,h2⟩
inductive Ty where
 |mk (T:Int) (args:List Ty)
 deriving Inhabited
inductive Nd where
 |mk (kind n p:Int) (s:List UInt8) (args:List Nd)
 deriving Inhabited
inductive Vl where
 |mk (k n a:Int) (s:List UInt8) (args:List Vl) (types:List Ty) (code:List Nd)
 deriving Inhabited
abbrev ag(n:Int):CV := .int .i64 n
mutual
def dg:Ty->CV
 |.mk T J => .agg [.int .i64 T,.sl 2 (aA J)]
def aA:L Ty->L CV
 |[]=>[]
 |t::l=>dg t::aA l
end
mutual
def aW:Nd->CV
 |.mk T n p s J => .agg [.int .i64 T,.int .i64 n,.int .i64 p,.str s,.sl 5 (aH J)]
def aH:L Nd->L CV
 |[]=>[]
 |t::l=>aW t::aH l
end
mutual
def bH:Vl->CV
 |.mk k n a s J B code => .agg [.int .i64 k,.int .i64 n,.int .i64 a,.str s,.sl 7 (aa J),.sl 2 (aA B),.sl 5 (aH code)]
def aa:L Vl->L CV
 |[]=>[]
 |t::l=>bH t::aa l
end
def zE:∀(l:L Ty)(i:Nat),(aA l)[i]?=l[i]?.map dg
 |[],i=>by simp[aA]
 |t::l,0=>by simp[aA]
 |t::l,i+1=>by simp[aA,zE l i]
def aZ:∀(l:L Ty),(aA l).length=l.length
 |[]=>rfl
 |t::l=>by simp[aA,aZ l]
def Ek:∀(l:L Nd)(i:Nat),(aH l)[i]?=l[i]?.map aW
 |[],i=>by simp[aH]
 |t::l,0=>by simp[aH]
 |t::l,i+1=>by simp[aH,Ek l i]
def bt:∀(l:L Nd),(aH l).length=l.length
 |[]=>rfl
 |t::l=>by simp[aH,bt l]
def kK:∀(l:L Vl)(i:Nat),(aa l)[i]?=l[i]?.map bH
 |[],i=>by simp[aa]
 |t::l,0=>by simp[aa]
 |t::l,i+1=>by simp[aa,kK l i]
def aG:∀(l:L Vl),(aa l).length=l.length
 |[]=>rfl
 |t::l=>by simp[aa,aG l]
abbrev Rh(n:Int):Prop := -9223372036854775808<=n/\n<=9223372036854775807
mutual
def ac5:Ty->Prop
 |.mk T J=>Rh T/\Xv J
def Xv:L Ty->Prop
 |[]=>True
 |t::l=>ac5 t/\Xv l
end
mutual
def ac6:Nd->Prop
 |.mk T n p _ J=>Rh T/\Rh n/\Rh p/\RC J
def RC:L Nd->Prop
 |[]=>True
 |t::l=>ac6 t/\RC l
end
mutual
def ac7:Vl->Prop
 |.mk k n a _ J B code=>Rh k/\Rh n/\Rh a/\aam J/\Xv B/\RC code
def aam:L Vl->Prop
 |[]=>True
 |t::l=>ac7 t/\aam l
end
mutual
def bw:Ty->Nat
 |.mk _ J=>bz J+1
def bz:L Ty->Nat
 |[]=>0
 |t::l=>bw t+bz l
end
mutual
def bM:Nd->Nat
 |.mk _ _ _ s J=>s.length+aU J+1
def aU:L Nd->Nat
 |[]=>0
 |t::l=>bM t+aU l
end
mutual
def aM:Vl->Nat
 |.mk _ _ _ s J B code=>s.length+aO J+bz B+aU code+1
def aO:L Vl->Nat
 |[]=>0
 |t::l=>aM t+aO l
end
def QU(t:Ty):1<=bw t:=by cases t;simp[bw]
def Gt(t:Nd):1<=bM t:=by cases t;simp[bM]
def QV(t:Vl):1<=aM t:=by cases t;simp[aM]
def j9:∀(l:L Ty),l.length<=bz l
 |[]=>aaj _
 |t::l=>by have:=QU t;have:=j9 l;simp only[aac,bz];omega
def gG:∀(l:L Nd),l.length<=aU l
 |[]=>aaj _
 |t::l=>by have:=Gt t;have:=gG l;simp only[aac,aU];omega
def kg:∀(l:L Vl),l.length<=aO l
 |[]=>aaj _
 |t::l=>by have:=QV t;have:=kg l;simp only[aac,aO];omega
def cL:∀{l:L Ty}{x:Ty},x∈l->bw x<=bz l
 |[],x,h=>by simp at h
 |t::l,x,h=>by
  simp only[bz];rcases List.mem_cons.1 h with rfl|h
  ·omega
  ·have:=cL h;omega
def eX:∀{l:L Nd}{x:Nd},x∈l->bM x<=aU l
 |[],x,h=>by simp at h
 |t::l,x,h=>by
  simp only[aU];rcases List.mem_cons.1 h with rfl|h
  ·omega
  ·have:=eX h;omega
def fy:∀{l:L Vl}{x:Vl},x∈l->aM x<=aO l
 |[],x,h=>by simp at h
 |t::l,x,h=>by
  simp only[aO];rcases List.mem_cons.1 h with rfl|h
  ·omega
  ·have:=fy h;omega
set_option linter.unusedVariables false
set_option linter.unusedSimpArgs false
def arity(t:Int):Int :=
 if t=1\/t=2\/t=3\/t=4\/t=5\/t=6\/t=7\/t=8 then 0 else if t=9\/t=10\/t=15 then 1 else if t=11\/t=12\/t=13\/t=14 then 2 else -1
mutual
def uO(p:Int->Bool):Ty->Bool
 |.mk T J=>p T&&pg p J
def pg(p:Int->Bool):L Ty->Bool
 |[]=>true
 |t::l=>uO p t&&pg p l
end
def AM(t:Int):Bool:=t != 8&&t != 10&&t != 13&&t != 14&&t != 15&&decide (arity t>=0)
def tM(t:Int):Bool:=t != 8&&t != 14&&t != 15
def fY(t:Ty):Bool:=uO AM t
def gW(t:Ty):Bool:=uO tM t
mutual
def CG(p:Int->Bool):Ty->Bool
 |.mk T J=>if T=14 then true else p T&&ET p J
def ET(p:Int->Bool):L Ty->Bool
 |[]=>true
 |t::l=>CG p t&&ET p l
end
def V0(t:Int):Bool:=t != 15&&t != 8
def JJ(t:Int):Bool:=t != 8
def mH(t:Ty):Bool:=CG V0 t
def iT(t:Ty):Bool:=CG JJ t
def lD:L Ty->Bool
 |[]=>false
 |t::_=>fY t
mutual
def fC:Ty->Int->Int->Bool×Int
 |.mk T J,d,n=>if d>24\/n+1>300\/arity T≠J.length then(false,n+1)else
  match ey J (d+1) (n+1)with
  |(true,m)=>(if T=13\/T=15 then lD J else true,m)
  |(false,m)=>(false,m)
def ey:L Ty->Int->Int->Bool×Int
 |[],_,n=>(true,n)
 |t::l,d,n=>match fC t d n with
  |(true,m)=>ey l d m
  |(false,m)=>(false,m)
end
def bB(t:Ty):Bool:=(fC t 1 0).1
mutual
def tL:∀(t:Ty)(d n:Int),n<=300->n<(fC t d n).2/\(fC t d n).2<=301/\((fC t d n).1=true->(fC t d n).2<=300)
 |.mk T J,d,n,B=>by
  simp only[fC];split
  ·refine⟨ob,ob,cS⟩
  ·rename_i h;have Y:=I0 J (d+1) (n+1) bn;split
   ·rename_i m C;rw[C]at Y;have:=Y.2.2 Z;refine⟨zb,by simp only at this ⊢;omega,λ_=>this⟩
   ·rename_i m C;rw[C]at Y;refine⟨zb,Y.2.1,cS⟩
def I0:∀(l:L Ty)(d n:Int),n<=300->n<=(ey l d n).2/\(ey l d n).2<=301/\((ey l d n).1=true->(ey l d n).2<=300)
 |[],d,n,B=>by simp only[ey];exact⟨bn,bn,λ_=>B⟩
 |t::l,d,n,B=>by
  have Y:=tL t d n B;simp only[ey];split
  ·rename_i m C;rw[C]at Y;have h1:=Y.2.2 Z;have h2:=Y.1;simp only at h1 h2;have K:=I0 l d m h1;exact⟨bn,K.2⟩
  ·rename_i m C;rw[C]at Y;have h1:=Y.1;have h2:=Y.2.1;simp only at h1 h2;exact⟨rj,h2,cS⟩
end
mutual
def fZ:Nd->Int->Int->Option Ty×Int
 |.mk T n p s J,d,left=>if left-1<0\/d>24\/T≠2\/n≠0\/s≠[]\/arity p≠J.length then(none,left-1)else
  match eA J (d+1) (left-1)with
  |(some l,m)=>(some (.mk p l),m)
  |(none,m)=>(none,m)
def eA:L Nd->Int->Int->Option (L Ty)×Int
 |[],_,left=>(some [],left)
 |x::l,d,left=>match fZ x d left with
  |(some t,m)=>match eA l d m with
   |(some r,P)=>(some (t::r),P)
   |(none,P)=>(none,P)
  |(none,m)=>(none,m)
end
mutual
def HF:∀(t:Nd)(d n:Int),0<=n->(fZ t d n).2<n /\ -1<=(fZ t d n).2/\((fZ t d n).1≠none->0<=(fZ t d n).2)
 |.mk T A p s J,d,n,B=>by
  simp only[fZ];split
  ·refine⟨ob,ob,cS⟩
  ·rename_i h;have Y:=Gu J (d+1) (n-1) bn;split
   ·rename_i l m C;rw[C]at Y;have:=Y.2.2 cS;exact⟨zb,by simp only at this ⊢;omega,λ_=>this⟩
   ·rename_i m C;rw[C]at Y;exact⟨zb,Y.2.1,cS⟩
def Gu:∀(l:L Nd)(d n:Int),0<=n->(eA l d n).2<=n /\ -1<=(eA l d n).2/\((eA l d n).1≠none->0<=(eA l d n).2)
 |[],d,n,B=>by simp only[eA];exact⟨bn,bn,λ_=>B⟩
 |t::l,d,n,B=>by
  have Y:=HF t d n B;simp only[eA];split
  ·rename_i y m C;rw[C]at Y;have h1:=Y.2.2 cS;have h2:=Y.1;simp only at h1 h2;have K:=Gu l d m h1;split
   ·rename_i r P W;rw[W]at K;have:=K.1;simp only at this;exact⟨rj,K.2.1,λ_=>K.2.2 cS⟩
   ·rename_i P W;rw[W]at K;have:=K.1;simp only at this;exact⟨rj,K.2.1,cS⟩
  ·rename_i m C;rw[C]at Y;have h1:=Y.1;have h2:=Y.2.1;simp only at h1 h2;exact⟨rj,h2,cS⟩
end
def aP(n:Nd):Ty×Int:=match (fZ n 1 300).1 with
 |some t=>if bB t then(t,0)else(.mk 0 [],1)
 |none=>(.mk 0 [],1)
mutual
def TJ:Ty->Nd
 |.mk T J => .mk 2 0 T [] (Nm J)
def Nm:L Ty->L Nd
 |[]=>[]
 |t::l=>TJ t::Nm l
end
def uo:Nd := .mk 0 0 0 [] []
def kX:Ty := .mk 0 []
def ad2(t:Ty):Nd×Int:=if bB t then(TJ t,0)else(uo,1)
mutual
def dh:Ty->Ty->Bool
 |.mk T l,.mk U r=>T==U&&gJ l r
def gJ:L Ty->L Ty->Bool
 |[],[]=>true
 |t::l,u::r=>dh t u&&gJ l r
 |_,_=>false
end
mutual
def sH:Nd->Nd->Bool
 |.mk a b c s l,.mk A O c' Q Y=>a==A&&b==O&&c==c'&&s==Q&&pZ l Y
def pZ:L Nd->L Nd->Bool
 |[],[]=>true
 |t::l,u::r=>sH t u&&pZ l r
 |_,_=>false
end
mutual
def gF:∀(t u:Ty),dh t u=true↔t=u
 |.mk T l,.mk U r=>by simp[dh,nh l r]
def nh:∀(t u:L Ty),gJ t u=true↔t=u
 |[],[]=>by simp[gJ]
 |[],_::_=>by simp[gJ]
 |_::_,[]=>by simp[gJ]
 |t::l,u::r=>by simp[gJ,gF t u,nh l r]
end
mutual
def aan:Ty->Bool
 |.mk T J=>decide (arity T>=0)&&Xw J
def Xw:L Ty->Bool
 |[]=>true
 |t::l=>aan t&&Xw l
end
mutual
def aao(Y:Bool)(q:L Int):Ty->Bool
 |.mk T J=>if q.contains T then false else if T=14/\Y=false then true else Xx Y q J
def Xx(Y:Bool)(q:L Int):L Ty->Bool
 |[]=>true
 |t::l=>aao Y q t&&Xx Y q l
end
def ahE(t:Ty):Bool:=aan t&&aao true [8,10,13,14,15] t
mutual
def y9:Ty->Int->Int->Bool×Int
 |.mk T J,d,left=>if d=0\/left=0\/arity T≠J.length then(false,0)else
  match sV J (d-1) (left-1)with
  |(true,m)=>(if T=13\/T=15 then lD J else true,m)
  |(false,_)=>(false,0)
def sV:L Ty->Int->Int->Bool×Int
 |[],_,left=>(true,left)
 |t::l,d,left=>match y9 t d left with
  |(true,m)=>sV l d m
  |(false,_)=>(false,0)
end
mutual
def Oe:∀(t:Ty)(d n:Int),d<=25->n<=300->(y9 t (25-d) (300-n)).1=(fC t d n).1/\((fC t d n).1=true->(y9 t (25-d) (300-n)).2=300-(fC t d n).2)
 |.mk T J,d,n,O,B=>by
  simp only[fC,y9];by_cases h:d>24\/n+1>300\/arity T≠J.length
  ·rw[if_pos h,if_pos bn];simp
  ·rw[if_neg h,if_neg bn];have W:=I1 J (d+1) (n+1) bn bn;rw[show 25-(d+1)=25-d-1 from by omega,show 300-(n+1)=300-n-1 from by omega]at W;rcases D:ey J (d+1) (n+1)with ⟨b,m⟩
   rcases C:sV J (25-d-1) (300-n-1)with ⟨V,P⟩
   rw[D,C]at W;obtain⟨I,q⟩:=W;simp only at I q;subst I;cases V
   ·simp
   ·simp only;exact⟨trivial,λ_=>q Z⟩
def I1:∀(l:L Ty)(d n:Int),d<=25->n<=300->(sV l (25-d) (300-n)).1=(ey l d n).1/\((ey l d n).1=true->(sV l (25-d) (300-n)).2=300-(ey l d n).2)
 |[],d,n,O,B=>by simp[ey,sV]
 |t::l,d,n,O,B=>by
  have W:=Oe t d n O B;have Y:=tL t d n B;simp only[ey,sV];rcases D:fC t d n with ⟨b,m⟩
  rcases C:y9 t (25-d) (300-n)with ⟨V,P⟩
  rw[D,C]at W;rw[D]at Y;obtain⟨I,q⟩:=W;simp only at I q Y;subst I;cases V
  ·simp
  ·simp only;rw[q rfl];exact I1 l d m O (Y.2.2 Z)
end
def I2(t:Ty):(y9 t 24 300).1=bB t:=by
 have:=(Oe t 1 0 bn bn).1;simpa[bB]using this
mutual
def Xy:Nd->Int->Int->Ty×Int
 |.mk T n p s J,d,left=>if T≠2\/n≠0\/s≠[]\/d=0\/left-1<0 then(kX,left-1)else
  match Xz J (d-1) (left-1)with
  |(l,m)=>(.mk p l,m)
def Xz:L Nd->Int->Int->L Ty×Int
 |[],_,left=>([],left)
 |x::l,d,left=>match Xy x d left with
  |(t,m)=>match Xz l d m with
   |(r,P)=>(t::r,P)
end
mutual
def ig:Ty->Bool
 |.mk T J=>decide (arity T≠J.length)||nY J
def nY:L Ty->Bool
 |[]=>false
 |t::l=>ig t||nY l
end
mutual
def Gv:∀(t:Ty)(d n:Int),ig t=true->(y9 t d n).1=false
 |.mk T J,d,n,h=>by
  simp only[y9];split
  ·rfl
  ·rename_i A;simp only[ig,aaA,aeH]at h;have h2:nY J=true:=by
    rcases h with h|h
    ·omega
    ·exact h
   have Y:=I3 J (d-1) (n-1) h2;rcases C:sV J (d-1) (n-1)with ⟨b,m⟩
   rw[C]at Y;simp only at Y;subst Y;rfl
def I3:∀(l:L Ty)(d n:Int),nY l=true->(sV l d n).1=false
 |[],d,n,h=>by simp[nY]at h
 |t::l,d,n,h=>by
  simp only[nY,aaA]at h;simp only[sV];rcases C:y9 t d n with ⟨b,m⟩
  cases b
  ·rfl
  ·have h2:nY l=true:=by
    rcases h with h|h
    ·have:=Gv t d n h;rw[C]at this;simp at this
    ·exact h
   exact I3 l d m h2
end
def agP(n:Nd):Ty×Int:=if(y9 (Xy n 24 300).1 24 300).1 then((Xy n 24 300).1,0)else(.mk 0 [],1)
abbrev bN:Int:=1152921504606846976
def sD(p:Int):Bool:=decide ((1<=p/\p<=15)\/(20<=p/\p<=28)\/(40<=p/\p<=95))
def gp(T n p:Int)(s:L UInt8)(k:Nat)(d:Int):Int :=
 if d>24 then 4
 else if T<0\/T>3\/T=2/\sD p=false then 3
 else if T≠0/\n≠0\/T≠2/\p≠0\/T≠1/\s≠[]\/T<2/\0<k then 1
 else if n < -bN\/n>bN then 2
 else if 200<s.length then 4 else 0
mutual
def eR:Nd->Int->Int
 |.mk T n p s J,d=>if gp T n p s J.length d=0 then dI J (d+1)else gp T n p s J.length d
def dI:L Nd->Int->Int
 |[],_=>0
 |x::l,d=>if eR x d=0 then dI l d else eR x d
end
mutual
def many:Nd->Nat
 |.mk _ _ _ _ J=>cV J+1
def cV:L Nd->Nat
 |[]=>0
 |x::l=>many x+cV l
end
def dY(n:Nd):Int:=if eR n 1=0 then(if 300<many n then 4 else 0)else eR n 1
def Ct(c m:Nat):L UInt8 :=
 if m=0 then [byteOf (c:Nat)]else byteOf ((c+128:Nat):Int)::Ct (m%128) (m/128)
termination_by m
decreasing_by omega
def jU(n:Int):L UInt8:=Ct ((if n<0 then 64 else 0)+n.natAbs%64) (n.natAbs/64)
mutual
def eI:Nd->L UInt8
 |.mk T n p s J =>
  if T=0 then byteOf T::jU n
  else if T=1 then byteOf T::(jU (s.length:Int)++s)
  else if T=2 then byteOf T::byteOf p::(jU (J.length:Int)++fG J)
  else byteOf T::(jU (J.length:Int)++fG J)
def fG:L Nd->L UInt8
 |[]=>[]
 |x::l=>eI x++fG l
end
def K2(n:Nd):L UInt8×Int:=if dY n=0 then(eI n,0)else([],dY n)
def rH:L UInt8->Nat->Nat->Option (Nat×L UInt8)
 |[],_,_=>none
 |b::s,n,sh=>if b.toNat=0\/sh>55 then none
  else if b.toNat>=128 then rH s (n+b.toNat%128*2^sh) (sh+7)else some (n+b.toNat%128*2^sh,s)
def mh(b:UInt8)(s:L UInt8):Option (Nat×L UInt8):=if b.toNat>=128 then rH s (b.toNat%64) 6 else some (b.toNat%64,s)
def fI:L UInt8->Option (Int×L UInt8)
 |[]=>none
 |b::s=>match mh b s with
  |none=>none
  |some (n,r)=>if(b.toNat/64%2=1/\n=0)\/n>1152921504606846976 then none else some (if b.toNat/64%2=1 then -(n:Int)else n,r)
def jy(c:Nat)(h:c<256):(byteOf (c:Int)).toNat=c:=by
 have:=oD (c:Int);rw[show IntKind.u8.wrap (c:Int)=c from by simp[IntKind.wrap,IntKind.bits,IntKind.signed];omega]at this;omega
def mj(b:UInt8):byteOf ((b.toNat:Nat):Int)=b:=by
 apply UInt8.toNat_inj.1;rw[jy _ b.toNat_lt]
def nA(c:Nat):Ct c 0=[byteOf (c:Nat)]:=by rw[Ct];simp
def oL(c m:Nat)(h:m≠0):Ct c m=byteOf ((c+128:Nat):Int)::Ct (m%128) (m/128):=by rw[Ct,if_neg h]
def Uj:∀(m c n N:Nat)(r:L UInt8),c<128->c+128*m≠0->N%7=6->(c+128*m)*2^N<=2^60->rH (Ct c m++r) n N=some (n+(c+128*m)*2^N,r):=by
 intro m
 induction m using Nat.strongRecOn with
 |ind m V =>
  intro c n N r A T H Q;have U:N<=60:=by
   have h1:2^N<=2^60:=aeS (Nat.le_mul_of_pos_left _ bn) Q;exact(Nat.pow_le_pow_iff_right bn).1 h1
  by_cases C:m=0
  ·subst C;rw[nA];simp only[adU,aeU,rH];rw[jy _ bn,if_neg bn,if_neg bn,agw A];simp
  ·rw[oL _ _ C];simp only[adU,rH];rw[jy _ bn,if_neg bn,if_pos bn];have e:(c+128)%128=c:=by omega
   have Y:m%128+128*(m/128)=m:=by omega
   have W:2^(N+7)=128*2^N:=by rw[Nat.pow_add];omega
   rw[e,V (m/128) bn (m%128) _ _ r bn bn bn (by
    rw[Y,W];refine aeS ?_ Q;rw[<- Nat.mul_assoc,Nat.mul_comm m 128]
    exact afE _ bn)]
   rw[Y,W];congr 2;rw[afO,ahn,<- Nat.mul_assoc,Nat.mul_comm m 128]
def Gw:∀(s:L UInt8)(n N v:Nat)(r:L UInt8),rH s n N=some (v,r)->∃c m,c<128/\c+128*m≠0/\s=Ct c m++r/\v=n+(c+128*m)*2^N
 |[],n,N,v,r,h=>by simp[rH]at h
 |b::s,n,N,v,r,h=>by
  have Q:=b.toNat_lt;simp only[rH]at h;split at h
  ·simp at h
  ·rename_i V;split at h
   ·rename_i h1;obtain⟨c,m,A,Y,G,M⟩:=Gw s _ _ v r h;have W:2^(N+7)=128*2^N:=by rw[Nat.pow_add];omega
    refine⟨b.toNat%128,c+128*m,bn,bn,?_,?_⟩
    ·rw[oL _ _ Y,show(c+128*m)%128=c from by omega,show(c+128*m)/128=m from by omega,show b.toNat%128+128=b.toNat from by omega,mj,G];rfl
    ·grind
   ·rename_i h1;simp at h;refine⟨b.toNat,0,bn,bn,?_,?_⟩
    ·rw[nA,mj,h.2];rfl
    ·grind
def sE(n:Int)(r:L UInt8)(h1 : -bN<=n)(h2:n<=bN):fI (jU n++r)=some (n,r):=by
 have H:n.natAbs<=1152921504606846976:=by unfold bN at h1 h2;omega
 unfold jU;generalize Y:(if n<0 then 64 else 0:Nat)=sg;have W:(sg=64/\n<0)\/(sg=0/\0<=n):=by split at Y<;>omega
 generalize O:n.natAbs=a at H ⊢;by_cases C:a/64=0
 ·rw[C,nA];simp only[adU,aeU,fI,mh];rw[jy _ bn,if_neg bn];simp only;rw[if_neg bn];simp only[aeO,aff,agy];split<;>omega
 ·rw[oL _ _ C];simp only[adU,fI,mh]
  rw[jy _ bn,if_pos bn,Uj _ _ _ _ _ bn bn bn (by
   rw[show a/64%128+128*(a/64/128)=a/64 from by omega];omega)]
  simp only;rw[show a/64%128+128*(a/64/128)=a/64 from by omega];have e:(sg+a%64+128)%64+a/64*2^6=a:=by omega
  rw[e,if_neg bn];simp only[aeO,aff,agy];split<;>omega
def nZ{s:L UInt8}{n:Int}{r:L UInt8}(h:fI s=some (n,r)):s=jU n++r /\ -bN<=n/\n<=bN:=by
 cases s with
 |nil=>simp[fI]at h
 |cons b s =>
  have Q:=b.toNat_lt;simp only[fI]at h;split at h
  ·simp at h
  ·rename_i v C M;split at h
   ·simp at h
   ·rename_i B;simp only[aeO,aff]at h;obtain⟨h1,rfl⟩:=h;unfold bN;unfold mh at M;split at M
    ·rename_i A;obtain⟨c,m,V,N,G,W⟩:=Gw _ _ _ _ _ M;have H:n.natAbs=v:=by split at h1<;>omega
     refine⟨?_,acs,acs⟩;unfold jU;rw[H];have I:v/64=c+128*m:=by omega
     have q:v%64=b.toNat%64:=by omega
     rw[I,q,oL _ _ N,show(c+128*m)%128=c from by omega,show(c+128*m)/128=m from by omega,G];have Y:(if n<0 then 64 else 0:Nat)+b.toNat%64+128=b.toNat:=by split at h1<;>split<;>omega
     rw[Y,mj];rfl
    ·rename_i A;simp at M;obtain⟨M,rfl⟩:=M;have H:n.natAbs=v:=by split at h1<;>omega
     refine⟨?_,acs,acs⟩;unfold jU;rw[H,show v/64=0 from by omega,nA,show v%64=b.toNat%64 from by omega];have Y:(if n<0 then 64 else 0:Nat)+b.toNat%64=b.toNat:=by split at h1<;>split<;>omega
     rw[Y,mj];rfl
def K3{s:L UInt8}{n:Int}{r:L UInt8}(t:L UInt8)(h:fI s=some (n,r)):fI (s++t)=some (n,r++t):=by
 obtain⟨h1,h2,V⟩:=nZ h;rw[h1,aeG];exact sE n (r++t) h2 V
inductive Rd (α:Type) where
 |ok (a:α) (s:List UInt8) (left:Nat)
 |no (e:Int)
def oa(f:L UInt8->Nat->Rd Nd):Nat->L UInt8->Nat->Rd (L Nd)
 |0,s,left => .ok [] s left
 |k+1,s,left=>match f s left with
  |.no e => .no e
  |.ok x Q Y=>match oa f k Q Y with
   |.no e => .no e
   |.ok l T W => .ok (x::l) T W
def pS(f:L UInt8->Nat->Rd Nd)(T p:Int)(s:L UInt8)(left:Nat):Rd Nd :=
 match fI s with
 |none => .no 1
 |some (k,Q)=>if k<0 then .no 1 else match oa f k.toNat Q left with
  |.no e => .no e
  |.ok l A Y => .ok (.mk T 0 p [] l) A Y
def sW(f:L UInt8->Nat->Rd Nd)(c:Nat)(s:L UInt8)(left:Nat):Rd Nd :=
 if c=0 then(match fI s with
  |none => .no 1
  |some (n,Q) => .ok (.mk 0 n 0 [] []) Q left)
 else if c=1 then(match fI s with
  |none => .no 1
  |some (n,Q)=>if n<0\/n>200\/n>Q.length then .no 1 else .ok (.mk 1 0 0 (Q.take n.toNat) []) (Q.drop n.toNat) left)
 else if c=2 then(match s with
  |[] => .no 1
  |p::Q=>if sD p.toNat=true then pS f 2 p.toNat Q left else .no 1)
 else if c=3 then pS f 3 0 s left
 else .no 1
def fP:Nat->L UInt8->Nat->Rd Nd
 |0,_,_ => .no 4
 |g+1,s,left=>if left=0 then .no 4 else match s with
  |[] => .no 1
  |c::s'=>sW (fP g) c.toNat s' (left-1)
def fF(s:L UInt8):Nd×Int:=match fP 24 s 300 with
 |.no e=>(uo,e)
 |.ok n r _=>if r=[]then(n,0)else(uo,1)
def YG(n:Int):jU n≠[]:=by
 unfold jU;rw[Ct];split<;>simp
def I4:∀l:L Nd,l.length<=cV l
 |[]=>aaj _
 |.mk _ _ _ _ _::l=>by have:=I4 l;simp only[aac,cV,many];omega
def jT{T n p:Int}{s:L UInt8}{J:L Nd}{d:Int}(h:eR (.mk T n p s J) d=0):gp T n p s J.length d=0/\dI J (d+1)=0:=by
 simp only[eR]at h;by_cases O:gp T n p s J.length d=0
 ·omega
 ·omega
def ni{T n p:Int}{s:L UInt8}{k:Nat}{d:Int}(h:gp T n p s k d=0) :
  d<=24/\(T=0\/T=1\/T=2/\sD p=true\/T=3)/\(T≠0->n=0)/\(T≠2->p=0)/\(T≠1->s=[])/\(T<2->k=0) /\ -bN<=n/\n<=bN/\s.length<=200:=by
 unfold gp at h;split at h
 ·omega
 ·split at h
  ·omega
  ·grind
def yz{T n p:Int}{s:L UInt8}{k:Nat}{d:Int}(Q:d<=24)(h1:T=0\/T=1\/T=2/\sD p=true\/T=3)(h2:T≠0->n=0)(V:T≠2->p=0)(S:T≠1->s=[])(K:T<2->k=0)(q : -bN<=n)(H:n<=bN)(J:s.length<=200):gp T n p s k d=0:=by
 unfold gp;rw[if_neg bn,if_neg,if_neg,if_neg bn,if_neg bn]
 ·simp_all
 ·grind
def Of{p:Int}(h:sD p=true):1<=p/\p<=95:=by
 unfold sD at h;have:=aeg h;omega
def Bj:∀(g:Nat)(n:Nd)(r:L UInt8)(left:Nat),left<=300->eR n (25-g)=0->many n<=left->fP g (eI n++r) left = .ok n r (left-many n)
 |0,.mk T n p s args,r,left,hl,h,C=>by
  have:=(ni (jT h).1).1;omega
 |g+1,.mk T n p s args,r,left,hl,h,C=>by
  obtain⟨h1,h2⟩:=jT h;obtain⟨hd,D,B,V,G,ha,U,S,pU⟩:=ni h1;simp only[many]at C ⊢;have hf:∀(n:Nd)(r:L UInt8)(Y:Nat),Y<=300->eR n (25-g)=0->many n<=Y->fP g (eI n++r) Y = .ok n r (Y-many n):=λn r Y=>Bj g n r Y;have I:∀(l:L Nd)(r:L UInt8)(Y:Nat),Y<=300->dI l (25-g)=0->cV l<=Y->oa (fP g) l.length (fG l++r) Y = .ok l r (Y-cV l):=by
   intro l
   induction l with
   |nil=>intro r Y _ _ _;simp[oa,fG,cV]
   |cons x l K =>
    intro r Y Q h C;simp only[dI]at h;simp only[cV]at C;have O:eR x (25-g)=0:=by by_cases N:eR x (25-g)=0;exact N;rw[if_neg N]at h;exact h
    rw[if_pos O]at h;simp only[aac,oa,fG,aeG,cV];rw[hf x _ Y Q O bn];simp only;rw[K r _ bn h bn];simp only[Nat.sub_sub]
  have H:∀(T p:Int),dI args (25-g)=0->pS (fP g) T p (jU (args.length:Int)++fG args++r) (left-1) = .ok (.mk T 0 p [] args) r (left-1-cV args):=by
   intro T p J;have:=I4 args;unfold pS;rw[aeG,sE _ _ ga ga];simp only;rw[if_neg bn,show((args.length:Nat):Int).toNat=args.length from by omega,I args r (left-1) bn J bn]
  have M:dI args (25-g)=0:=by rw[<- h2];congr 1;omega
  have e:left-(cV args+1)=left-1-cV args:=by omega
  rw[e];simp only[fP];rw[if_neg bn];have E:(byteOf 0).toNat=0:=rfl;have A:(byteOf 1).toNat=1:=rfl;have u:(byteOf 2).toNat=2:=rfl;have b3:(byteOf 3).toNat=3:=rfl;rcases D with rfl|rfl|⟨rfl,W⟩|rfl
  ·have:=ha bn;rw[agf]at this;subst this;obtain rfl:=V bn;obtain rfl:=G bn;simp only[eI,if_true,adU,sW,E];rw[sE _ _ U S];simp[cV]
  ·have:=ha bn;rw[agf]at this;subst this;obtain rfl:=V bn;obtain rfl:=B bn;simp only[eI,show ¬((1:Int)=0)from by omega,aft,if_true,adU,sW,A,show ¬((1:Nat)=0)from by omega];rw[aeG,sE _ _ ga ga];simp only;rw[if_neg adg];simp[cV]
  ·obtain rfl:=B bn;obtain rfl:=G bn;have NS:=Of W;have P:(byteOf p).toNat=p:=by
    obtain⟨q,rfl⟩:∃q:Nat,p=q:=⟨p.toNat,bn⟩
    rw[jy _ bn]
   simp only[eI,show ¬((2:Int)=0)from by omega,show ¬((2:Int)=1)from by omega,aft,if_true,adU,sW,u,show ¬((2:Nat)=0)from by omega,show ¬((2:Nat)=1)from by omega];rw[P,if_pos W,H 2 p M]
  ·obtain rfl:=B bn;obtain rfl:=G bn;obtain rfl:=V bn;simp only[eI,show ¬((3:Int)=0)from by omega,show ¬((3:Int)=1)from by omega,show ¬((3:Int)=2)from by omega,aft,if_true,adU,sW,b3,show ¬((3:Nat)=0)from by omega,show ¬((3:Nat)=1)from by omega,show ¬((3:Nat)=2)from by omega];rw[H 3 0 M]
def yA:∀(g:Nat)(s:L UInt8)(left:Nat)(n:Nd)(r:L UInt8)(Y:Nat),g<=24->fP g s left = .ok n r Y->s=eI n++r/\eR n (25-g)=0/\left=Y+many n
 |0,s,left,n,r,Y,_,h=>by simp[fP]at h
 |g+1,s,left,n,r,Y,hg,h=>by
  have u:=λs left n r Y=>yA g s left n r Y bn;have I:∀(k:Nat)(s:L UInt8)(left:Nat)(l:L Nd)(r:L UInt8)(Y:Nat),oa (fP g) k s left = .ok l r Y->s=fG l++r/\dI l (25-g)=0/\left=Y+cV l/\l.length=k:=by
   intro k
   induction k with
   |zero=>intro s left l r Y h;simp[oa]at h;obtain⟨rfl,rfl,rfl⟩:=h;simp[fG,dI,cV]
   |succ k Q =>
    intro s left l r Y h;simp only[oa]at h;split at h
    ·simp at h
    ·rename_i x s1 l1 q;split at h
     ·simp at h
     ·rename_i l2 s2 Gx E;simp at h;obtain⟨rfl,rfl,rfl⟩:=h;obtain⟨e1,e2,e3⟩:=u _ _ _ _ _ q;obtain⟨P,V,B,N⟩:=Q _ _ _ _ _ E;refine⟨?_,?_,?_,?_⟩
      ·rw[e1,P];simp[fG]
      ·simp[dI,e2,V]
      ·simp only[cV];omega
      ·simp[N]
  have H:∀(T p:Int)(s:L UInt8)(left:Nat)(n:Nd)(r:L UInt8)(Y:Nat),pS (fP g) T p s left = .ok n r Y->∃l,n = .mk T 0 p [] l/\s=jU (l.length:Int)++fG l++r/\dI l (25-g)=0/\left=Y+cV l:=by
   intro T p s left n r Y h;unfold pS at h;split at h
   ·simp at h
   ·rename_i k M hk;split at h
    ·simp at h
    ·rename_i yO;split at h
     ·simp at h
     ·rename_i l s2 Gx E;simp at h;obtain⟨rfl,rfl,rfl⟩:=h;obtain⟨P,V,B,N⟩:=I _ _ _ _ _ _ E;obtain⟨U,_,_⟩:=nZ hk;refine⟨l,Z,?_,V,B⟩;rw[U,P,N,aeG,show((k.toNat:Nat):Int)=k from by omega]
  simp only[fP]at h;split at h
  ·simp at h
  ·rename_i E;cases s with
   |nil=>simp at h
   |cons c s =>
    simp only at h;have O:(25-((g+1:Nat):Int))<=24:=by omega
    have S:(25-((g+1:Nat):Int))+1=25-(g:Int):=by omega
    have W:=mj c;unfold sW at h;split at h
    ·rename_i A;split at h
     ·simp at h
     ·rename_i v M J;simp at h;obtain⟨rfl,rfl,rfl⟩:=h;obtain⟨U,D,C⟩:=nZ J;refine⟨?_,?_,by simp only[many,cV];omega⟩
      ·simp only[eI,if_true];rw[U,<- W,A];rfl
      ·simp only[eR];rw[if_pos (yz O (.inl Z) cS cS cS cS D C cS)];rfl
    ·rename_i hc0;split at h
     ·rename_i A;split at h
      ·simp at h
      ·rename_i v M J;split at h
       ·simp at h
       ·rename_i Lc;simp at h;obtain⟨rfl,rfl,rfl⟩:=h;obtain⟨U,D,C⟩:=nZ J;have K:(M.take v.toNat).length=v.toNat:=by rw[aeD];omega
        refine⟨?_,?_,by simp only[many,cV];omega⟩
        ·simp only[eI,show ¬((1:Int)=0)from by omega,aft,if_true];rw[K,show((v.toNat:Nat):Int)=v from by omega,U,<- W,A];simp[aeG]
        ·simp only[eR];rw[if_pos (yz O (.inr (.inl Z)) cS cS cS cS ga ga (by rw[K];omega))];rfl
     ·rename_i DJ;split at h
      ·rename_i A;cases s with
       |nil=>simp at h
       |cons p s =>
        simp only at h;split at h
        ·rename_i hp;obtain⟨l,rfl,P,V,B⟩:=H _ _ _ _ _ _ _ h;have G:=mj p;refine⟨?_,?_,by simp only[many];omega⟩
         ·simp only[eI,show ¬((2:Int)=0)from by omega,show ¬((2:Int)=1)from by omega,aft,if_true];rw[P,G,<- W,A];rfl
         ·simp only[eR];rw[if_pos (yz O (.inr (.inr (.inl ⟨Z,hp⟩))) cS cS cS cS ga ga cS),S];exact V
        ·simp at h
      ·rename_i yl;split at h
       ·rename_i A;obtain⟨l,rfl,P,V,B⟩:=H _ _ _ _ _ _ _ h;refine⟨?_,?_,by simp only[many];omega⟩
        ·simp only[eI,show ¬((3:Int)=0)from by omega,show ¬((3:Int)=1)from by omega,show ¬((3:Int)=2)from by omega,aft];rw[P,<- W,A];rfl
        ·simp only[eR];rw[if_pos (yz O (.inr (.inr (.inr Z))) cS cS cS cS ga ga cS),S];exact V
       ·simp at h
def Og{g:Nat}{s:L UInt8}(t:L UInt8){left:Nat}{n:Nd}{r:L UInt8}{Y:Nat}(G:g<=24)(E:left<=300)(h:fP g s left = .ok n r Y):fP g (s++t) left = .ok n (r++t) Y:=by
 obtain⟨h1,h2,V⟩:=yA g s left n r Y G h;rw[h1,aeG,Bj g n (r++t) left E h2 bn,show left-many n=Y from by omega]
def I5:∀(g:Nat)(s:L UInt8)(left:Nat)(e:Int),g<=24->left<=300->fP g s left = .no e->e=1\/e=4/\∀t,fP g (s++t) left = .no 4
 |0,s,left,e,_,_,h=>by simp[fP]at h;right;exact⟨h.symm,λt=>rfl⟩
 |g+1,s,left,e,hg,ahG,h=>by
  have I:∀(k:Nat)(s:L UInt8)(left:Nat)(e:Int),left<=300->oa (fP g) k s left = .no e->e=1\/e=4/\∀t,oa (fP g) k (s++t) left = .no 4:=by
   intro k
   induction k with
   |zero=>intro s left e _ h;simp[oa]at h
   |succ k U =>
    intro s left e E h;simp only[oa]at h;split at h
    ·rename_i P Y;simp at h;subst h;refine(I5 g s left _ bn E Y).imp id λ⟨h1,h2⟩=>⟨h1,λt=>?_⟩
     simp only[oa,h2 t]
    ·rename_i x M K O;have C:=(yA g _ _ _ _ _ bn O).2.2;split at h
     ·rename_i P Y;simp at h;subst h;refine(U M K _ bn Y).imp id λ⟨h1,h2⟩=>⟨h1,λt=>?_⟩
      simp only[oa,Og t bn E O,h2 t]
     ·simp at h
  have H:∀(T p:Int)(s:L UInt8)(left:Nat)(e:Int),left<=300->pS (fP g) T p s left = .no e->e=1\/e=4/\∀t,pS (fP g) T p (s++t) left = .no 4:=by
   intro T p s left e E h;unfold pS at h;split at h
   ·simp_all
   ·rename_i k B D;split at h
    ·simp_all
    ·rename_i J;split at h
     ·rename_i P Y;simp at h;subst h;refine(I _ _ _ _ E Y).imp id λ⟨h1,h2⟩=>⟨h1,λt=>?_⟩
      unfold pS;rw[K3 t D];simp only;rw[if_neg J,h2 t]
     ·simp at h
  simp only[fP]at h;split at h
  ·rename_i W;simp at h;subst h;right;exact⟨Z,λt=>by simp only[fP,if_pos W]⟩
  ·rename_i W;cases s with
   |nil=>simp at h;exact .inl h.symm
   |cons c s =>
    simp only at h;unfold sW at h;split at h
    ·grind
    ·rename_i V;split at h
     ·grind
     ·rename_i Q;split at h
      ·rename_i N;cases s with
       |nil=>simp at h;exact .inl h.symm
       |cons p s =>
        simp only at h;split at h
        ·rename_i G;refine(H _ _ _ _ _ bn h).imp id λ⟨h1,h2⟩=>⟨h1,λt=>?_⟩
         simp only[fP,if_neg W,adU,sW,if_neg V,if_neg Q,if_pos N,if_pos G,h2 t]
        ·simp_all
      ·rename_i N;split at h
       ·rename_i S;refine(H _ _ _ _ _ bn h).imp id λ⟨h1,h2⟩=>⟨h1,λt=>?_⟩
        simp only[fP,if_neg W,adU,sW,if_neg V,if_neg Q,if_neg N,if_pos S,h2 t]
       ·simp_all
def kf{n:Nd}:dY n=0↔eR n 1=0/\many n<=300:=by
 unfold dY;split
 ·omega
 ·rename_i h;simp[h]
def JO{s:L UInt8}(h:(fF s).2=0):dY (fF s).1=0/\eI (fF s).1=s:=by
 unfold fF at h ⊢;split at h
 ·rename_i e S;simp at h;subst h;have:=I5 24 s 300 0 bn bn S;omega
 ·rename_i n r l B;obtain⟨h1,h2,V⟩:=yA 24 _ _ _ _ _ bn B;split at h
  ·rename_i C;simp only[if_pos C];refine⟨kf.2 ⟨h2,bn⟩,by rw[h1,C,aec]⟩
  ·simp at h
def Mp{s:L UInt8}(h:(fF s).2≠0):(fF s).1=uo:=by
 unfold fF at h ⊢;split at h
 ·rfl
 ·grind
end Go.cK
