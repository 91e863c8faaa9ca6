/- The data of the chain, as plain inductive types, and how they lie in m -/
import Derived.Test.YtdnpapgijbhofaaGreatDoorLibDRt
import Derived.IntWalk
set_option linter.defProp false
set_option linter.unusedVariables false
set_option linter.unusedSimpArgs false
namespace Go.cB
def gM{n:Int}(h1 : -9223372036854775808<=n)(h2:n<=9223372036854775807):IntKind.i64.wrap n=n:=IntWalk.i64_in n ⟨h1,h2⟩
inductive Ty where
 |mk (T:Int) (args:List Ty)
 deriving Inhabited
inductive Nd where
 |mk (kind n p:Int) (s:List UInt8) (args:List Nd)
 deriving Inhabited
inductive Vl where
 |mk (k n a:Int) (s:List UInt8) (args:List Vl) (types:List Ty) (code:List Nd)
 deriving Inhabited
abbrev aA(n:Int):CV := .int .i64 n
mutual
def dA:Ty->CV
 |.mk T args => .agg [.int .i64 T,.sl 2 (aj args)]
def aj:L Ty->L CV
 |[]=>[]
 |t::l=>dA t::aj l
end
mutual
def aS:Nd->CV
 |.mk u n p s args => .agg [.int .i64 u,.int .i64 n,.int .i64 p,.str s,.sl 5 (aD args)]
def aD:L Nd->L CV
 |[]=>[]
 |t::l=>aS t::aD l
end
mutual
def bA:Vl->CV
 |.mk k n a s args types H => .agg [.int .i64 k,.int .i64 n,.int .i64 a,.str s,.sl 7 (aa args),.sl 2 (aj types),.sl 5 (aD H)]
def aa:L Vl->L CV
 |[]=>[]
 |t::l=>bA t::aa l
end
def xe:∀(l:L Ty)(i:Nat),(aj l)[i]?=l[i]?.map dA
 |[],i=>by simp[aj]
 |t::l,0=>by simp[aj]
 |t::l,i+1=>by simp[aj,xe l i]
def aL:∀(l:L Ty),(aj l).length=l.length
 |[]=>rfl
 |t::l=>by simp[aj,aL l]
def Cg:∀(l:L Nd)(i:Nat),(aD l)[i]?=l[i]?.map aS
 |[],i=>by simp[aD]
 |t::l,0=>by simp[aD]
 |t::l,i+1=>by simp[aD,Cg l i]
def bf:∀(l:L Nd),(aD l).length=l.length
 |[]=>rfl
 |t::l=>by simp[aD,bf l]
def jl:∀(l:L Vl)(i:Nat),(aa l)[i]?=l[i]?.map bA
 |[],i=>by simp[aa]
 |t::l,0=>by simp[aa]
 |t::l,i+1=>by simp[aa,jl l i]
def az:∀(l:L Vl),(aa l).length=l.length
 |[]=>rfl
 |t::l=>by simp[aa,az l]
abbrev OB(n:Int):Prop := -9223372036854775808<=n/\n<=9223372036854775807
mutual
def YR:Ty->Prop
 |.mk T args=>OB T/\Ff args
def Ff:L Ty->Prop
 |[]=>True
 |t::l=>YR t/\Ff l
end
mutual
def US:Nd->Prop
 |.mk u n p _ args=>OB u/\OB n/\OB p/\Ob args
def Ob:L Nd->Prop
 |[]=>True
 |t::l=>US t/\Ob l
end
mutual
def YT:Vl->Prop
 |.mk k n a _ args types H=>OB k/\OB n/\OB a/\Jp args/\Ff types/\Ob H
def Jp:L Vl->Prop
 |[]=>True
 |t::l=>YT t/\Jp l
end
mutual
def bp:Ty->Nat
 |.mk _ args=>aU args+1
def aU:L Ty->Nat
 |[]=>0
 |t::l=>bp t+aU l
end
mutual
def bR:Nd->Nat
 |.mk _ _ _ s args=>s.length+aM args+1
def aM:L Nd->Nat
 |[]=>0
 |t::l=>bR t+aM l
end
mutual
def aE:Vl->Nat
 |.mk _ _ _ s args types H=>s.length+aB args+aU types+aM H+1
def aB:L Vl->Nat
 |[]=>0
 |t::l=>aE t+aB l
end
def ND(t:Ty):1<=bp t:=by cases t;simp[bp]
def D5(t:Nd):1<=bR t:=by cases t;simp[bR]
def NG(t:Vl):1<=aE t:=by cases t;simp[aE]
def ig:∀(l:L Ty),l.length<=aU l
 |[]=>aal _
 |t::l=>by have:=ND t;have:=ig l;simp only[aaa,aU];omega
def gA:∀(l:L Nd),l.length<=aM l
 |[]=>aal _
 |t::l=>by have:=D5 t;have:=gA l;simp only[aaa,aM];omega
def ga:∀(l:L Vl),l.length<=aB l
 |[]=>aal _
 |t::l=>by have:=NG t;have:=ga l;simp only[aaa,aB];omega
def b9:∀{l:L Ty}{x:Ty},x∈l->bp x<=aU l
 |[],x,h=>by simp at h
 |t::l,x,h=>by
  simp only[aU];rcases List.mem_cons.1 h with rfl|h
  omega;have:=b9 h;omega
def eR:∀{l:L Nd}{x:Nd},x∈l->bR x<=aM l
 |[],x,h=>by simp at h
 |t::l,x,h=>by
  simp only[aM];rcases List.mem_cons.1 h with rfl|h
  omega;have:=eR h;omega
def cI:∀{l:L Vl}{x:Vl},x∈l->aE x<=aB l
 |[],x,h=>by simp at h
 |t::l,x,h=>by
  simp only[aB];rcases List.mem_cons.1 h with rfl|h
  omega;have:=cI h;omega
def arity(t:Int):Int :=
 if t=1\/t=2\/t=3\/t=4\/t=5\/t=6\/t=7\/t=8 then 0 else if t=9\/t=10\/t=15 then 1 else if t=11\/t=12\/t=13\/t=14 then 2 else -1
mutual
def qU(p:Int->Bool):Ty->Bool
 |.mk T args=>p T&&mo p args
def mo(p:Int->Bool):L Ty->Bool
 |[]=>true
 |t::l=>qU p t&&mo p l
end
def wG(t:Int):Bool:=t != 8&&t != 10&&t != 13&&t != 14&&t != 15&&decide (arity t>=0)
def qz(t:Int):Bool:=t != 8&&t != 14&&t != 15
def eJ(t:Ty):Bool:=qU wG t
def fN(t:Ty):Bool:=qU qz t
mutual
def wH(p:Int->Bool):Ty->Bool
 |.mk T args=>if T=14 then true else p T&&oB p args
def oB(p:Int->Bool):L Ty->Bool
 |[]=>true
 |t::l=>wH p t&&oB p l
end
def rQ(t:Int):Bool:=t != 15&&t != 8
def Mf(t:Int):Bool:=t != 8
def gT(t:Ty):Bool:=wH rQ t
def iP(t:Ty):Bool:=wH Mf t
def gS:L Ty->Bool
 |[]=>false
 |t::_=>eJ t
mutual
def eP:Ty->Int->Int->Bool×Int
 |.mk T args,d,n=>if d>24\/n+1>300\/arity T≠args.length then(false,n+1)else
  match dW args (d+1) (n+1)with
  |(true,m)=>(if T=13\/T=15 then gS args else true,m)
  |(false,m)=>(false,m)
def dW:L Ty->Int->Int->Bool×Int
 |[],_,n=>(true,n)
 |t::l,d,n=>match eP t d n with
  |(true,m)=>dW l d m
  |(false,m)=>(false,m)
end
def bg(t:Ty):Bool:=(eP t 1 0).1
mutual
def rD:∀(t:Ty)(d n:Int),n<=300->n<(eP t d n).2/\(eP t d n).2<=301/\((eP t d n).1=true->(eP t d n).2<=300)
 |.mk T args,d,n,O=>by simp only[eP];split;grind;rename_i h;have S:=Gb args (d+1) (n+1) bn;grind
def Gb:∀(l:L Ty)(d n:Int),n<=300->n<=(dW l d n).2/\(dW l d n).2<=301/\((dW l d n).1=true->(dW l d n).2<=300)
 |[],d,n,O=>by simp only[dW];exact⟨bn,bn,λ_=>O⟩
 |t::l,d,n,O=>by have S:=rD t d n O;simp only[dW];split;rename_i m u;rw[u]at S;have h1:=S.2.2 Z;have h2:=S.1;have Y:=Gb l d m h1;exact⟨bn,Y.2⟩;grind
end
mutual
def fo:Nd->Int->Int->Option Ty×Int
 |.mk u n p s args,d,left=>if left-1<0\/d>24\/u≠2\/n≠0\/s≠[]\/arity p≠args.length then(none,left-1)else
  match dK args (d+1) (left-1)with
  |(some l,m)=>(some (.mk p l),m)
  |(none,m)=>(none,m)
def dK:L Nd->Int->Int->Option (L Ty)×Int
 |[],_,left=>(some [],left)
 |x::l,d,left=>match fo x d left with
  |(some t,m)=>match dK l d m with
   |(some r,S)=>(some (t::r),S)
   |(none,S)=>(none,S)
  |(none,m)=>(none,m)
end
mutual
def E7:∀(t:Nd)(d n:Int),0<=n->(fo t d n).2<n /\ -1<=(fo t d n).2/\((fo t d n).1≠none->0<=(fo t d n).2)
 |.mk u U p s args,d,n,O=>by simp only[fo];split;grind;rename_i h;have S:=D6 args (d+1) (n-1) bn;grind
def D6:∀(l:L Nd)(d n:Int),0<=n->(dK l d n).2<=n /\ -1<=(dK l d n).2/\((dK l d n).1≠none->0<=(dK l d n).2)
 |[],d,n,O=>by simp only[dK];exact⟨bn,bn,λ_=>O⟩
 |t::l,d,n,O=>by have S:=E7 t d n O;simp only[dK];split;rename_i y m T;rw[T]at S;have h1:=S.2.2 c9;have h2:=S.1;simp only at h1 h2;have Y:=D6 l d m h1;split;rename_i r V W;rw[W]at Y;have:=Y.1;exact⟨sk,Y.2.1,λ_=>Y.2.2 c9⟩;rename_i V W;rw[W]at Y;have:=Y.1;exact⟨sk,Y.2.1,c9⟩;rename_i m T;rw[T]at S;have h1:=S.1;have h2:=S.2.1;simp only at h1 h2;exact⟨sk,h2,c9⟩
end
def aO(n:Nd):Ty×Int:=match (fo n 1 300).1 with
 |some t=>if bg t then(t,0)else(.mk 0 [],1)
 |none=>(.mk 0 [],1)
mutual
def PL:Ty->Nd
 |.mk T args => .mk 2 0 T [] (Kd args)
def Kd:L Ty->L Nd
 |[]=>[]
 |t::l=>PL t::Kd l
end
def oF:Nd := .mk 0 0 0 [] []
def iY:Ty := .mk 0 []
def ZN(t:Ty):Nd×Int:=if bg t then(PL t,0)else(oF,1)
mutual
def cw:Ty->Ty->Bool
 |.mk T l,.mk U r=>T==U&&gO l r
def gO:L Ty->L Ty->Bool
 |[],[]=>true
 |t::l,u::r=>cw t u&&gO l r
 |_,_=>false
end
mutual
def Cs:Nd->Nd->Bool
 |.mk a b c s l,.mk p N Y A V=>a==p&&b==N&&c==Y&&s==A&&zj l V
def zj:L Nd->L Nd->Bool
 |[],[]=>true
 |t::l,u::r=>Cs t u&&zj l r
 |_,_=>false
end
mutual
def eg:∀(t u:Ty),cw t u=true↔t=u
 |.mk T l,.mk U r=>by simp[cw,om l r]
def om:∀(t u:L Ty),gO t u=true↔t=u
 |[],[]=>by simp[gO]
 |[],_::_=>by simp[gO]
 |_::_,[]=>by simp[gO]
 |t::l,u::r=>by simp[gO,eg t u,om l r]
end
mutual
def WC:Ty->Bool
 |.mk T args=>decide (arity T>=0)&&TQ args
def TQ:L Ty->Bool
 |[]=>true
 |t::l=>WC t&&TQ l
end
mutual
def WD(Y:Bool)(q:L Int):Ty->Bool
 |.mk T args=>if q.contains T then false else if T=14/\Y=false then true else TR Y q args
def TR(Y:Bool)(q:L Int):L Ty->Bool
 |[]=>true
 |t::l=>WD Y q t&&TR Y q l
end
def adx(t:Ty):Bool:=WC t&&WD true [8,10,13,14,15] t
mutual
def wP:Ty->Int->Int->Bool×Int
 |.mk T args,d,left=>if d=0\/left=0\/arity T≠args.length then(false,0)else
  match vg args (d-1) (left-1)with
  |(true,m)=>(if T=13\/T=15 then gS args else true,m)
  |(false,_)=>(false,0)
def vg:L Ty->Int->Int->Bool×Int
 |[],_,left=>(true,left)
 |t::l,d,left=>match wP t d left with
  |(true,m)=>vg l d m
  |(false,_)=>(false,0)
end
mutual
def K6:∀(t:Ty)(d n:Int),d<=25->n<=300->(wP t (25-d) (300-n)).1=(eP t d n).1/\((eP t d n).1=true->(wP t (25-d) (300-n)).2=300-(eP t d n).2)
 |.mk T args,d,n,J,O=>by simp only[eP,wP];by_cases h:d>24\/n+1>300\/arity T≠args.length;grind;rw[if_neg h,if_neg bn];have S:=Gc args (d+1) (n+1) bn bn;grind
def Gc:∀(l:L Ty)(d n:Int),d<=25->n<=300->(vg l (25-d) (300-n)).1=(dW l d n).1/\((dW l d n).1=true->(vg l (25-d) (300-n)).2=300-(dW l d n).2)
 |[],d,n,J,O=>by simp[dW,vg]
 |t::l,d,n,J,O=>by
  have S:=K6 t d n J O;have A:=rD t d n O;simp only[dW,vg];rcases E:eP t d n with ⟨b,m⟩
  rcases p:wP t (25-d) (300-n)with ⟨N,W⟩
  rw[E,p]at S;rw[E]at A;obtain⟨Y,B⟩:=S;simp only at Y B A;subst Y;cases N;simp;simp only;rw[B rfl];exact Gc l d m J (A.2.2 Z)
end
def Gd(t:Ty):(wP t 24 300).1=bg t:=by have:=(K6 t 1 0 bn bn).1;simpa[bg]using this
mutual
def TS:Nd->Int->Int->Ty×Int
 |.mk u n p s args,d,left=>if u≠2\/n≠0\/s≠[]\/d=0\/left-1<0 then(iY,left-1)else
  match TT args (d-1) (left-1)with
  |(l,m)=>(.mk p l,m)
def TT:L Nd->Int->Int->L Ty×Int
 |[],_,left=>([],left)
 |x::l,d,left=>match TS x d left with
  |(t,m)=>match TT l d m with
   |(r,S)=>(t::r,S)
end
mutual
def fY:Ty->Bool
 |.mk T args=>decide (arity T≠args.length)||mJ args
def mJ:L Ty->Bool
 |[]=>false
 |t::l=>fY t||mJ l
end
mutual
def D7:∀(t:Ty)(d n:Int),fY t=true->(wP t d n).1=false
 |.mk T args,d,n,h=>by
  simp only[wP];split;rfl;rename_i D;simp only[fY]at h;have h2:mJ args=true:=by simp_all
  have S:=Ge args (d-1) (n-1) h2;grind
def Ge:∀(l:L Ty)(d n:Int),mJ l=true->(vg l d n).1=false
 |[],d,n,h=>by simp[mJ]at h
 |t::l,d,n,h=>by
  simp only[mJ,Bool.or_eq_true]at h;simp only[vg];rcases A:wP t d n with ⟨b,m⟩
  cases b;rfl;have h2:mJ l=true:=by
   rcases h with h|h
   have:=D7 t d n h;rw[A]at this;simp at this;exact h
  exact Ge l d m h2
end
def acy(n:Nd):Ty×Int:=if(wP (TS n 24 300).1 24 300).1 then((TS n 24 300).1,0)else(.mk 0 [],1)
abbrev bF:Int:=1152921504606846976
def qM(p:Int):Bool:=decide ((1<=p/\p<=15)\/(20<=p/\p<=28)\/(40<=p/\p<=95))
def gr(u n p:Int)(s:L UInt8)(k:Nat)(d:Int):Int :=
 if d>24 then 4
 else if u<0\/u>3\/u=2/\qM p=false then 3
 else if u≠0/\n≠0\/u≠2/\p≠0\/u≠1/\s≠[]\/u<2/\0<k then 1
 else if n < -bF\/n>bF then 2
 else if 200<s.length then 4 else 0
mutual
def eC:Nd->Int->Int
 |.mk u n p s args,d=>if gr u n p s args.length d=0 then cS args (d+1)else gr u n p s args.length d
def cS:L Nd->Int->Int
 |[],_=>0
 |x::l,d=>if eC x d=0 then cS l d else eC x d
end
mutual
def many:Nd->Nat
 |.mk _ _ _ _ args=>cz args+1
def cz:L Nd->Nat
 |[]=>0
 |x::l=>many x+cz l
end
def dD(n:Nd):Int:=if eC n 1=0 then(if 300<many n then 4 else 0)else eC n 1
def AG(c m:Nat):L UInt8 :=
 if m=0 then [byteOf (c:Nat)]else byteOf ((c+128:Nat):Int)::AG (m%128) (m/128)
termination_by m
decreasing_by omega
def jb(n:Int):L UInt8:=AG ((if n<0 then 64 else 0)+n.natAbs%64) (n.natAbs/64)
mutual
def dS:Nd->L UInt8
 |.mk u n p s args =>
  if u=0 then byteOf u::jb n
  else if u=1 then byteOf u::(jb (s.length:Int)++s)
  else if u=2 then byteOf u::byteOf p::(jb (args.length:Int)++eM args)
  else byteOf u::(jb (args.length:Int)++eM args)
def eM:L Nd->L UInt8
 |[]=>[]
 |x::l=>dS x++eM l
end
def IJ(n:Nd):L UInt8×Int:=if dD n=0 then(dS n,0)else([],dD n)
def qd:L UInt8->Nat->Nat->Option (Nat×L UInt8)
 |[],_,_=>none
 |b::s,n,sh=>if b.toNat=0\/sh>55 then none
  else if b.toNat>=128 then qd s (n+b.toNat%128*2^sh) (sh+7)else some (n+b.toNat%128*2^sh,s)
def kO(b:UInt8)(s:L UInt8):Option (Nat×L UInt8):=if b.toNat>=128 then qd s (b.toNat%64) 6 else some (b.toNat%64,s)
def eN:L UInt8->Option (Int×L UInt8)
 |[]=>none
 |b::s=>match kO b s with
  |none=>none
  |some (n,r)=>if(b.toNat/64%2=1/\n=0)\/n>1152921504606846976 then none else some (if b.toNat/64%2=1 then -(n:Int)else n,r)
def iA(c:Nat)(h:c<256):(byteOf (c:Int)).toNat=c:=by have:=ng (c:Int);rw[show IntKind.u8.wrap (c:Int)=c from by simp[IntKind.wrap,IntKind.bits,IntKind.signed];omega]at this;omega
def kP(b:UInt8):byteOf ((b.toNat:Nat):Int)=b:=by apply UInt8.toNat_inj.1;rw[iA _ b.toNat_lt]
def lZ(c:Nat):AG c 0=[byteOf (c:Nat)]:=by rw[AG];simp
def nB(c m:Nat)(h:m≠0):AG c m=byteOf ((c+128:Nat):Int)::AG (m%128) (m/128):=by rw[AG,if_neg h]
def Qk:∀(m c n p:Nat)(r:L UInt8),c<128->c+128*m≠0->p%7=6->(c+128*m)*2^p<=2^60->qd (AG c m++r) n p=some (n+(c+128*m)*2^p,r):=by
 intro m
 induction m using Nat.strongRecOn with
 |ind m S =>
  intro c n p r D M Q A;have V:p<=60:=by have h1:2^p<=2^60:=abJ (Nat.le_mul_of_pos_left _ bn) A;exact(Nat.pow_le_pow_iff_right bn).1 h1
  by_cases T:m=0;subst T;rw[lZ];simp only[abh,qd];rw[iA _ bn,if_neg bn,if_neg bn,adk D];simp;rw[nB _ _ T];simp only[abh,qd];rw[iA _ bn,if_neg bn,if_pos bn];have e:(c+128)%128=c:=by omega
  have Y:m%128+128*(m/128)=m:=by omega
  have W:2^(p+7)=128*2^p:=by rw[Nat.pow_add];omega
  rw[e,S (m/128) bn (m%128) _ _ r bn bn bn (by
   rw[Y,W];refine abJ ?_ A;rw[<- Nat.mul_assoc,Nat.mul_comm m 128]
   exact acz _ bn)]
  rw[Y,W];congr 2;rw[acF,adJ,<- Nat.mul_assoc,Nat.mul_comm m 128]
def D8:∀(s:L UInt8)(n p v:Nat)(r:L UInt8),qd s n p=some (v,r)->∃c m,c<128/\c+128*m≠0/\s=AG c m++r/\v=n+(c+128*m)*2^p
 |[],n,p,v,r,h=>by simp[qd]at h
 |b::s,n,p,v,r,h=>by have A:=b.toNat_lt;simp only[qd]at h;split at h;simp at h;rename_i M;split at h;rename_i h1;obtain⟨c,m,D,Y,C,q⟩:=D8 s _ _ v r h;have W:2^(p+7)=128*2^p:=(by rw[Nat.pow_add];omega);refine⟨b.toNat%128,c+128*m,bn,bn,?_,?_⟩;rw[nB _ _ Y,show(c+128*m)%128=c from by omega,show(c+128*m)/128=m from by omega,show b.toNat%128+128=b.toNat from by omega,kP,C];rfl;grind;rename_i h1;simp at h;refine⟨b.toNat,0,bn,bn,?_,?_⟩;rw[lZ,kP,h.2];rfl;grind
def qN(n:Int)(r:L UInt8)(h1 : -bF<=n)(h2:n<=bF):eN (jb n++r)=some (n,r):=by
 have Y:n.natAbs<=1152921504606846976:=by unfold bF at h1 h2;omega
 unfold jb;generalize C:(if n<0 then 64 else 0:Nat)=sg;have W:(sg=64/\n<0)\/(sg=0/\0<=n):=by split at C<;>omega
 generalize O:n.natAbs=a at Y ⊢;by_cases T:a/64=0
 ·rw[T,lZ];simp only[abh,acp,eN,kO];rw[iA _ bn,if_neg bn];simp only;rw[if_neg bn];simp only[acU,acZ,adi];split<;>omega
 rw[nB _ _ T];simp only[abh,eN,kO]
 rw[iA _ bn,if_pos bn,Qk _ _ _ _ _ bn bn bn (by
  rw[show a/64%128+128*(a/64/128)=a/64 from by omega];omega)]
 simp only;rw[show a/64%128+128*(a/64/128)=a/64 from by omega];have e:(sg+a%64+128)%64+a/64*2^6=a:=by omega
 rw[e,if_neg bn];simp only[acU,acZ,adi];split<;>omega
def mK{s:L UInt8}{n:Int}{r:L UInt8}(h:eN s=some (n,r)):s=jb n++r /\ -bF<=n/\n<=bF:=by
 cases s with
 |nil=>simp[eN]at h
 |cons b s =>
  have A:=b.toNat_lt;simp only[eN]at h;split at h;simp at h;rename_i v T q;split at h;simp at h;rename_i O;simp only[acU,acZ]at h;obtain⟨h1,rfl⟩:=h;unfold bF;unfold kO at q;split at q
  ·rename_i D;obtain⟨c,m,S,u,C,W⟩:=D8 _ _ _ _ _ q;have Y:n.natAbs=v:=(by split at h1<;>omega);refine⟨?_,YA,YA⟩;unfold jb;rw[Y];have B:v/64=c+128*m:=(by omega);have V:v%64=b.toNat%64:=(by omega);rw[B,V,nB _ _ u,show(c+128*m)%128=c from by omega,show(c+128*m)/128=m from by omega,C];have U:(if n<0 then 64 else 0:Nat)+b.toNat%64+128=b.toNat:=by split at h1<;>split<;>omega
   rw[U,kP];rfl
  rename_i D;simp at q;obtain⟨q,rfl⟩:=q;have Y:n.natAbs=v:=by split at h1<;>omega
  refine⟨?_,YA,YA⟩;unfold jb;rw[Y,show v/64=0 from by omega,lZ,show v%64=b.toNat%64 from by omega];have U:(if n<0 then 64 else 0:Nat)+b.toNat%64=b.toNat:=by split at h1<;>split<;>omega
  rw[U,kP];rfl
def IK{s:L UInt8}{n:Int}{r:L UInt8}(t:L UInt8)(h:eN s=some (n,r)):eN (s++t)=some (n,r++t):=by obtain⟨h1,h2,U⟩:=mK h;rw[h1,ace];exact qN n (r++t) h2 U
inductive Rd (α:Type) where
 |ok (a:α) (s:List UInt8) (left:Nat)
 |no (e:Int)
def mL(f:L UInt8->Nat->Rd Nd):Nat->L UInt8->Nat->Rd (L Nd)
 |0,s,left => .ok [] s left
 |k+1,s,left=>match f s left with
  |.no e => .no e
  |.ok x A Y=>match mL f k A Y with
   |.no e => .no e
   |.ok l H W => .ok (x::l) H W
def oE(f:L UInt8->Nat->Rd Nd)(u p:Int)(s:L UInt8)(left:Nat):Rd Nd :=
 match eN s with
 |none => .no 1
 |some (k,Y)=>if k<0 then .no 1 else match mL f k.toNat Y left with
  |.no e => .no e
  |.ok l H W => .ok (.mk u 0 p [] l) H W
def qZ(f:L UInt8->Nat->Rd Nd)(c:Nat)(s:L UInt8)(left:Nat):Rd Nd :=
 if c=0 then(match eN s with
  |none => .no 1
  |some (n,Y) => .ok (.mk 0 n 0 [] []) Y left)
 else if c=1 then(match eN s with
  |none => .no 1
  |some (n,Y)=>if n<0\/n>200\/n>Y.length then .no 1 else .ok (.mk 1 0 0 (Y.take n.toNat) []) (Y.drop n.toNat) left)
 else if c=2 then(match s with
  |[] => .no 1
  |p::Y=>if qM p.toNat=true then oE f 2 p.toNat Y left else .no 1)
 else if c=3 then oE f 3 0 s left
 else .no 1
def eT:Nat->L UInt8->Nat->Rd Nd
 |0,_,_ => .no 4
 |g+1,s,left=>if left=0 then .no 4 else match s with
  |[] => .no 1
  |c::s'=>qZ (eT g) c.toNat s' (left-1)
def eL(s:L UInt8):Nd×Int:=match eT 24 s 300 with
 |.no e=>(oF,e)
 |.ok n r _=>if r=[]then(n,0)else(oF,1)
def UJ(n:Int):jb n≠[]:=by unfold jb;rw[AG];split<;>simp
def Gf:∀l:L Nd,l.length<=cz l
 |[]=>aal _
 |.mk _ _ _ _ _::l=>by have:=Gf l;simp only[aaa,cz,many];omega
def jr{u n p:Int}{s:L UInt8}{args:L Nd}{d:Int}(h:eC (.mk u n p s args) d=0):gr u n p s args.length d=0/\cS args (d+1)=0:=by simp only[eC]at h;omega
def lR{u n p:Int}{s:L UInt8}{k:Nat}{d:Int}(h:gr u n p s k d=0) :
  d<=24/\(u=0\/u=1\/u=2/\qM p=true\/u=3)/\(u≠0->n=0)/\(u≠2->p=0)/\(u≠1->s=[])/\(u<2->k=0) /\ -bF<=n/\n<=bF/\s.length<=200:=by
 unfold gr at h;split at h;omega;split at h;omega;grind
def we{u n p:Int}{s:L UInt8}{k:Nat}{d:Int}(M:d<=24)(h1:u=0\/u=1\/u=2/\qM p=true\/u=3)(h2:u≠0->n=0)(U:u≠2->p=0)(P:u≠1->s=[])(Q:u<2->k=0)(S : -bF<=n)(Y:n<=bF)(W:s.length<=200):gr u n p s k d=0:=by unfold gr;grind
def K7{p:Int}(h:qM p=true):1<=p/\p<=95:=by unfold qM at h;have:=abd h;omega
def zk:∀(g:Nat)(n:Nd)(r:L UInt8)(left:Nat),left<=300->eC n (25-g)=0->many n<=left->eT g (dS n++r) left = .ok n r (left-many n)
 |0,.mk u n p s args,r,left,hl,h,W=>by have:=(lR (jr h).1).1;omega
 |g+1,.mk u n p s args,r,left,hl,h,W=>by
  obtain⟨h1,h2⟩:=jr h;obtain⟨hd,E,O,D,C,Q,K,V,oG⟩:=lR h1;simp only[many]at W ⊢;have hf:∀(n:Nd)(r:L UInt8)(Y:Nat),Y<=300->eC n (25-g)=0->many n<=Y->eT g (dS n++r) Y = .ok n r (Y-many n):=λn r Y=>zk g n r Y;have B:∀(l:L Nd)(r:L UInt8)(Y:Nat),Y<=300->cS l (25-g)=0->cz l<=Y->mL (eT g) l.length (eM l++r) Y = .ok l r (Y-cz l):=by
   intro l
   induction l with
   |nil=>intro r Y _ _ _;simp[mL,eM,cz]
   |cons x l I =>
    intro r Y U h W;simp only[cS]at h;simp only[cz]at W;have N:eC x (25-g)=0:=(by by_cases P:eC x (25-g)=0;exact P;rw[if_neg P]at h;exact h);rw[if_pos N]at h;simp only[aaa,mL,eM,ace,cz];rw[hf x _ Y U N bn];simp only;rw[I r _ bn h bn];simp only[Nat.sub_sub]
  have T:∀(u p:Int),cS args (25-g)=0->oE (eT g) u p (jb (args.length:Int)++eM args++r) (left-1) = .ok (.mk u 0 p [] args) r (left-1-cz args):=by intro u p H;have:=Gf args;unfold oE;rw[ace,qN _ _ hM hM];simp only;rw[if_neg bn,show((args.length:Nat):Int).toNat=args.length from by omega,B args r (left-1) bn H bn]
  have J:cS args (25-g)=0:=by rw[<- h2];congr 1;omega
  have e:left-(cz args+1)=left-1-cz args:=by omega
  rw[e];simp only[eT];rw[if_neg bn];have G:(byteOf 0).toNat=0:=rfl;have A:(byteOf 1).toNat=1:=rfl;have b2:(byteOf 2).toNat=2:=rfl;have b3:(byteOf 3).toNat=3:=rfl;rcases E with rfl|rfl|⟨rfl,M⟩|rfl
  have:=Q bn;rw[acX]at this;subst this;obtain rfl:=D bn;obtain rfl:=C bn;simp only[dS,if_true,abh,qZ,G];rw[qN _ _ K V];simp[cz];have:=Q bn;rw[acX]at this;subst this;obtain rfl:=D bn;obtain rfl:=O bn;simp only[dS,show ¬((1:Int)=0)from by omega,acd,if_true,abh,qZ,A,show ¬((1:Nat)=0)from by omega];rw[ace,qN _ _ hM hM];simp only;rw[if_neg aax];simp[cz];obtain rfl:=O bn;obtain rfl:=C bn;have KE:=K7 M;have S:(byteOf p).toNat=p:=(by obtain⟨q,rfl⟩:∃q:Nat,p=q:=⟨p.toNat,bn⟩;rw[iA _ bn]);simp only[dS,show ¬((2:Int)=0)from by omega,show ¬((2:Int)=1)from by omega,acd,if_true,abh,qZ,b2,show ¬((2:Nat)=0)from by omega,show ¬((2:Nat)=1)from by omega];rw[S,if_pos M,T 2 p J];obtain rfl:=O bn;obtain rfl:=C bn;obtain rfl:=D bn;simp only[dS,show ¬((3:Int)=0)from by omega,show ¬((3:Int)=1)from by omega,show ¬((3:Int)=2)from by omega,acd,if_true,abh,qZ,b3,show ¬((3:Nat)=0)from by omega,show ¬((3:Nat)=1)from by omega,show ¬((3:Nat)=2)from by omega];rw[T 3 0 J]
def wg:∀(g:Nat)(s:L UInt8)(left:Nat)(n:Nd)(r:L UInt8)(Y:Nat),g<=24->eT g s left = .ok n r Y->s=dS n++r/\eC n (25-g)=0/\left=Y+many n
 |0,s,left,n,r,Y,_,h=>by simp[eT]at h
 |g+1,s,left,n,r,Y,hg,h=>by
  have I:=λs left n r Y=>wg g s left n r Y bn;have B:∀(k:Nat)(s:L UInt8)(left:Nat)(l:L Nd)(r:L UInt8)(Y:Nat),mL (eT g) k s left = .ok l r Y->s=eM l++r/\cS l (25-g)=0/\left=Y+cz l/\l.length=k:=by
   intro k
   induction k with
   |zero=>intro s left l r Y h;simp[mL]at h;obtain⟨rfl,rfl,rfl⟩:=h;simp[eM,cS,cz]
   |succ k P =>
    intro s left l r Y h;simp only[mL]at h;split at h;simp at h;rename_i x s1 l1 H;split at h;simp at h;rename_i l2 E D9 S;simp at h;obtain⟨rfl,rfl,rfl⟩:=h;obtain⟨e1,e2,e3⟩:=I _ _ _ _ _ H;obtain⟨O,A,Q,G⟩:=P _ _ _ _ _ S;refine⟨?_,?_,?_,?_⟩;rw[e1,O];simp[eM];simp[cS,e2,A];simp only[cz];omega;simp[G]
  have T:∀(u p:Int)(s:L UInt8)(left:Nat)(n:Nd)(r:L UInt8)(Y:Nat),oE (eT g) u p s left = .ok n r Y->∃l,n = .mk u 0 p [] l/\s=jb (l.length:Int)++eM l++r/\cS l (25-g)=0/\left=Y+cz l:=by intro u p s left n r Y h;unfold oE at h;split at h;simp at h;rename_i k N hk;split at h;simp at h;rename_i Cj;split at h;simp at h;rename_i l E D9 S;simp at h;obtain⟨rfl,rfl,rfl⟩:=h;obtain⟨O,A,Q,G⟩:=B _ _ _ _ _ _ S;obtain⟨U,_,_⟩:=mK hk;refine⟨l,Z,?_,A,Q⟩;rw[U,O,G,ace,show((k.toNat:Nat):Int)=k from by omega]
  simp only[eT]at h;split at h;simp at h;rename_i S;cases s with
  |nil=>simp at h
  |cons c s =>
   simp only at h;have J:(25-((g+1:Nat):Int))<=24:=(by omega);have V:(25-((g+1:Nat):Int))+1=25-(g:Int):=(by omega);have W:=kP c;unfold qZ at h;split at h;rename_i D;split at h;simp at h;rename_i v N q;simp at h;obtain⟨rfl,rfl,rfl⟩:=h;obtain⟨U,C,M⟩:=mK q;refine⟨?_,?_,by simp only[many,cz];omega⟩;simp only[dS,if_true];rw[U,<- W,D];rfl;simp only[eC];rw[if_pos (we J (.inl Z) c9 c9 c9 c9 C M c9)];rfl;rename_i hc0;split at h;rename_i D;split at h;simp at h;rename_i v N q;split at h;simp at h;rename_i IT;simp at h;obtain⟨rfl,rfl,rfl⟩:=h;obtain⟨U,C,M⟩:=mK q;have K:(N.take v.toNat).length=v.toNat:=(by rw[abm];omega);refine⟨?_,?_,by simp only[many,cz];omega⟩;simp only[dS,show ¬((1:Int)=0)from by omega,acd,if_true];rw[K,show((v.toNat:Nat):Int)=v from by omega,U,<- W,D];simp[ace];simp only[eC];rw[if_pos (we J (.inr (.inl Z)) c9 c9 c9 c9 hM hM (by rw[K];omega))];rfl;rename_i BN;split at h
   ·rename_i D;cases s with
    |nil=>simp at h
    |cons p s =>
     simp only at h;split at h;rename_i hp;obtain⟨l,rfl,O,A,Q⟩:=T _ _ _ _ _ _ _ h;have WE:=kP p;refine⟨?_,?_,by simp only[many];omega⟩;simp only[dS,show ¬((2:Int)=0)from by omega,show ¬((2:Int)=1)from by omega,acd,if_true];rw[O,WE,<- W,D];rfl;simp only[eC];rw[if_pos (we J (.inr (.inr (.inl ⟨Z,hp⟩))) c9 c9 c9 c9 hM hM c9),V];exact A;simp at h
   rename_i vT;split at h;rename_i D;obtain⟨l,rfl,O,A,Q⟩:=T _ _ _ _ _ _ _ h;refine⟨?_,?_,by simp only[many];omega⟩;simp only[dS,show ¬((3:Int)=0)from by omega,show ¬((3:Int)=1)from by omega,show ¬((3:Int)=2)from by omega,acd];rw[O,<- W,D];rfl;simp only[eC];rw[if_pos (we J (.inr (.inr (.inr Z))) c9 c9 c9 c9 hM hM c9),V];exact A;simp at h
def K8{g:Nat}{s:L UInt8}(t:L UInt8){left:Nat}{n:Nd}{r:L UInt8}{Y:Nat}(Q:g<=24)(V:left<=300)(h:eT g s left = .ok n r Y):eT g (s++t) left = .ok n (r++t) Y:=by obtain⟨h1,h2,U⟩:=wg g s left n r Y Q h;rw[h1,ace,zk g n (r++t) left V h2 bn,show left-many n=Y from by omega]
def Gg:∀(g:Nat)(s:L UInt8)(left:Nat)(e:Int),g<=24->left<=300->eT g s left = .no e->e=1\/e=4/\∀t,eT g (s++t) left = .no 4
 |0,s,left,e,_,_,h=>by simp[eT]at h;right;exact⟨h.symm,λt=>rfl⟩
 |g+1,s,left,e,hg,adz,h=>by
  have B:∀(k:Nat)(s:L UInt8)(left:Nat)(e:Int),left<=300->mL (eT g) k s left = .no e->e=1\/e=4/\∀t,mL (eT g) k (s++t) left = .no 4:=by
   intro k
   induction k with
   |zero=>intro s left e _ h;simp[mL]at h
   |succ k S =>
    intro s left e V h;simp only[mL]at h;split at h;rename_i Q Y;simp at h;subst h;refine(Gg g s left _ bn V Y).imp id λ⟨h1,h2⟩=>⟨h1,λt=>?_⟩;simp only[mL,h2 t];rename_i x C K O;have J:=(wg g _ _ _ _ _ bn O).2.2;split at h;rename_i Q Y;simp at h;subst h;refine(S C K _ bn Y).imp id λ⟨h1,h2⟩=>⟨h1,λt=>?_⟩;simp only[mL,K8 t bn V O,h2 t];simp at h
  have T:∀(u p:Int)(s:L UInt8)(left:Nat)(e:Int),left<=300->oE (eT g) u p s left = .no e->e=1\/e=4/\∀t,oE (eT g) u p (s++t) left = .no 4:=by intro u p s left e V h;unfold oE at h;split at h;simp_all;rename_i k A E;split at h;simp_all;rename_i N;split at h;rename_i Q Y;simp at h;subst h;refine(B _ _ _ _ V Y).imp id λ⟨h1,h2⟩=>⟨h1,λt=>?_⟩;unfold oE;rw[IK t E];simp only;rw[if_neg N,h2 t];simp at h
  simp only[eT]at h;split at h;rename_i U;simp at h;subst h;right;exact⟨Z,λt=>by simp only[eT,if_pos U]⟩;rename_i U;cases s with
  |nil=>simp at h;exact .inl h.symm
  |cons c s =>
   simp only at h;unfold qZ at h;split at h;grind;rename_i W;split at h;grind;rename_i P;split at h
   ·rename_i H;cases s with
    |nil=>simp at h;exact .inl h.symm
    |cons p s =>
     simp only at h;split at h;rename_i D;refine(T _ _ _ _ _ bn h).imp id λ⟨h1,h2⟩=>⟨h1,λt=>?_⟩;simp only[eT,if_neg U,abh,qZ,if_neg W,if_neg P,if_pos H,if_pos D,h2 t];simp_all
   rename_i H;split at h;rename_i M;refine(T _ _ _ _ _ bn h).imp id λ⟨h1,h2⟩=>⟨h1,λt=>?_⟩;simp only[eT,if_neg U,abh,qZ,if_neg W,if_neg P,if_neg H,if_pos M,h2 t];simp_all
def jV{n:Nd}:dD n=0↔eC n 1=0/\many n<=300:=by unfold dD;split;omega;rename_i h;simp[h]
def GA{s:L UInt8}(h:(eL s).2=0):dD (eL s).1=0/\dS (eL s).1=s:=by unfold eL at h ⊢;split at h;rename_i e Y;subst h;have:=Gg 24 s 300 0 bn bn Y;omega;rename_i n r l O;obtain⟨h1,h2,U⟩:=wg 24 _ _ _ _ _ bn O;split at h;rename_i A;simp only[if_pos A];refine⟨jV.2 ⟨h2,bn⟩,by rw[h1,A,aba]⟩;omega
def Jl{s:L UInt8}(h:(eL s).2≠0):(eL s).1=oF:=by unfold eL at h ⊢;split at h;rfl;grind
end Go.cB
