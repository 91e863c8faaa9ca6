/- A part of the proof. -/
import Derived.Test.YtpnpbmbdkinajaaGreatDoorCtxG
import Derived.IntWalk
import Derived.OpenShut
import Derived.ProofKit
import Derived.Test.YtpnpbmbdkinajaaGreatDoorRows
import Derived.WalkKit
set_option linter.all false
set_option maxHeartbeats 0
set_option maxRecDepth 100000
namespace Go.cE
def gW{n}(Y : -9223372036854775808<=n)(V:n<=9223372036854775807):IntKind.i64.wrap n=n:=IntWalk.i64_in n ⟨Y,V⟩
inductive Ty where
 |mk (T:Int) (args:List Ty)
 deriving Inhabited
inductive Nd where
 |mk (kind n p:Int) (s:List UInt8) (args:List Nd)
 deriving Inhabited
inductive Vl where
 |mk (k n a:Int) (s:List UInt8) (args:List Vl) (types:List Ty) (code:List Nd)
 deriving Inhabited
abbrev Γ:=L Ty
abbrev Θ:=L Nd
abbrev Ξ:=L Vl
abbrev ah(n:Int):CV := .int .i64 n
mutual
def ct:Ty->CV
 |.mk T Y => .agg [.int .i64 T,.sl 2 (az Y)]
def az:Γ->Ψ
 |[]=>[]
 |t::l=>ct t::az l
end
mutual
def aV:Nd->CV
 |.mk T n p s Y => .agg [.int .i64 T,.int .i64 n,.int .i64 p,.str s,.sl 5 (aD Y)]
def aD:Θ->Ψ
 |[]=>[]
 |t::l=>aV t::aD l
end
mutual
def bz:Vl->CV
 |.mk k n a s V Y code => .agg [.int .i64 k,.int .i64 n,.int .i64 a,.str s,.sl 7 (aa V),.sl 2 (az Y),.sl 5 (aD code)]
def aa:Ξ->Ψ
 |[]=>[]
 |t::l=>bz t::aa l
end
def BO:∀(l)(i:Nat),(az l)[i]?=l[i]?.map ct
 |[],i=>by simp[az]
 |t::l,0=>by simp[az]
 |t::l,i+1=>by simp[az,BO l i]
def aY:∀l,(az l).length=l.length
 |[]=>rfl
 |t::l=>by simp[az,aY l]
def G6:∀(l)(i:Nat),(aD l)[i]?=l[i]?.map aV
 |[],i=>by simp[aD]
 |t::l,0=>by simp[aD]
 |t::l,i+1=>by simp[aD,G6 l i]
def bq:∀l,(aD l).length=l.length
 |[]=>rfl
 |t::l=>by simp[aD,bq l]
def lR:∀(l)(i:Nat),(aa l)[i]?=l[i]?.map bz
 |[],i=>by simp[aa]
 |t::l,0=>by simp[aa]
 |t::l,i+1=>by simp[aa,lR l i]
def aE:∀l,(aa l).length=l.length
 |[]=>rfl
 |t::l=>by simp[aa,aE l]
abbrev VY(n:Int):Prop := -9223372036854775808<=n/\n<=9223372036854775807
mutual
def afK:Ty->Prop
 |.mk T Y=>VY T/\VE Y
def VE:Γ->Prop
 |[]=>True
 |t::l=>afK t/\VE l
end
mutual
def ahN:Nd->Prop
 |.mk T n p _ Y=>VY T/\VY n/\VY p/\VF Y
def VF:Θ->Prop
 |[]=>True
 |t::l=>ahN t/\VF l
end
mutual
def afM:Vl->Prop
 |.mk k n a _ V Y code=>VY k/\VY n/\VY a/\Zd V/\VE Y/\VF code
def Zd:Ξ->Prop
 |[]=>True
 |t::l=>afM t/\Zd l
end
mutual
def bh:Ty->Nat
 |.mk _ Y=>bf Y+1
def bf:Γ->Nat
 |[]=>0
 |t::l=>bh t+bf l
end
mutual
def bE:Nd->Nat
 |.mk _ _ _ s Y=>s.length+aP Y+1
def aP:Θ->Nat
 |[]=>0
 |t::l=>bE t+aP l
end
mutual
def aG:Vl->Nat
 |.mk _ _ _ s V Y code=>s.length+aH V+bf Y+aP code+1
def aH:Ξ->Nat
 |[]=>0
 |t::l=>aG t+aH l
end
def Vh t:1<=bh t:=by cases t;simp[bh]
def HV(t):1<=bE t:=by cases t;simp[bE]
def Vi(t):1<=aG t:=by cases t;simp[aG]
def lD:∀l,l.length<=bf l
 |[]=>acd _
 |t::l=>by have:=Vh t;have:=lD l;simp only[aat,bf];omega
def gB:∀l,l.length<=aP l
 |[]=>acd _
 |t::l=>by have:=HV t;have:=gB l;simp only[aat,aP];omega
def iT:∀l,l.length<=aH l
 |[]=>acd _
 |t::l=>by have:=Vi t;have:=iT l;simp only[aat,aH];omega
def cN:∀{l x},x∈l->bh x<=bf l
 |[],x,h=>by simp at h
 |t::l,x,h=>by
  simp only[bf];rcases List.mem_cons.1 h with rfl|h
  omega;have:=cN h;omega
def eS:∀{l x},x∈l->bE x<=aP l
 |[],x,h=>by simp at h
 |t::l,x,h=>by
  simp only[aP];rcases List.mem_cons.1 h with rfl|h
  omega;have:=eS h;omega
def dV:∀{l x},x∈l->aG x<=aH l
 |[],x,h=>by simp at h
 |t::l,x,h=>by
  simp only[aH];rcases List.mem_cons.1 h with rfl|h
  omega;have:=dV h;omega
def arity(t:Int):Int :=
 if t=1\/t=2\/t=3\/t=4\/t=5\/t=6\/t=7\/t=8 then 0 else if t=9\/t=10\/t=15 then 1 else if t=11\/t=12\/t=13\/t=14 then 2 else -1
mutual
def vE(p:Int->Bool):Ty->Bool
 |.mk T Y=>p T&&oW p Y
def oW(p:Int->Bool):Γ->Bool
 |[]=>true
 |t::l=>vE p t&&oW p l
end
def Bq(t:Int):Bool:=t != 8&&t != 10&&t != 13&&t != 14&&t != 15&&decide (arity t>=0)
def uK(t:Int):Bool:=t != 8&&t != 14&&t != 15
def fZ(t:Ty):Bool:=vE Bq t
def iF(t:Ty):Bool:=vE uK t
mutual
def v8(p:Int->Bool):Ty->Bool
 |.mk T Y=>if T=14 then true else p T&&mg p Y
def mg(p:Int->Bool):Γ->Bool
 |[]=>true
 |t::l=>v8 p t&&mg p l
end
def wv(t:Int):Bool:=t != 15&&t != 8
def xF(t:Int):Bool:=t != 8
def jI(t:Ty):Bool:=v8 wv t
def gk(t:Ty):Bool:=v8 xF t
def jG:Γ->Bool
 |[]=>false
 |t::_=>fZ t
mutual
def gA:Ty->Int->Int->Bool×Int
 |.mk T Y,d,n=>if d>24\/n+1>300\/arity T≠Y.length then(false,n+1)else
  match fy Y (d+1) (n+1)with
  |(true,m)=>(if T=13\/T=15 then jG Y else true,m)
  |(false,m)=>(false,m)
def fy:Γ->Int->Int->Bool×Int
 |[],_,n=>(true,n)
 |t::l,d,n=>match gA t d n with
  |(true,m)=>fy l d m
  |(false,m)=>(false,m)
end
def bA(t:Ty):Bool:=(gA t 1 0).1
mutual
def wu:∀(t:Ty)(d n:Int),n<=300->n<(gA t d n).2/\(gA t d n).2<=301/\((gA t d n).1->(gA t d n).2<=300)
 |.mk T Y,d,n,I=>by simp only[gA];split;grind;rename_i h;have S:=Me Y (d+1) (n+1) ai;grind
def Me:∀(l:Γ)(d n:Int),n<=300->n<=(fy l d n).2/\(fy l d n).2<=301/\((fy l d n).1->(fy l d n).2<=300)
 |[],d,n,I=>by simp only[fy];exact⟨ai,ai,λ_=>I⟩
 |t::l,d,n,I=>by have S:=wu t d n I;simp only[fy];split;rename_i m Y;rw[Y]at S;have V:=S.2.2 Z;have U:=S.1;have D:=Me l d m V;exact⟨ai,D.2⟩;grind
end
mutual
def gQ:Nd->Int->Int->Option Ty×Int
 |.mk T n p s Y,d,left=>if left-1<0\/d>24\/T≠2\/n≠0\/s≠[]\/arity p≠Y.length then(none,left-1)else
  match eR Y (d+1) (left-1)with
  |(some l,m)=>(some (.mk p l),m)
  |(none,m)=>(none,m)
def eR:Θ->Int->Int->Option (Γ)×Int
 |[],_,left=>(some [],left)
 |x::l,d,left=>match gQ x d left with
  |(some t,m)=>match eR l d m with
   |(some r,J)=>(some (t::r),J)
   |(none,J)=>(none,J)
  |(none,m)=>(none,m)
end
mutual
def KL:∀(t:Nd)(d n:Int),0<=n->(gQ t d n).2<n /\ -1<=(gQ t d n).2/\((gQ t d n).1≠none->0<=(gQ t d n).2)
 |.mk T u p s Y,d,n,I=>by simp only[gQ];split;grind;rename_i h;have S:=JT Y (d+1) (n-1) ai;grind
def JT:∀(l:Θ)(d n:Int),0<=n->(eR l d n).2<=n /\ -1<=(eR l d n).2/\((eR l d n).1≠none->0<=(eR l d n).2)
 |[],d,n,I=>by simp only[eR];exact⟨ai,ai,λ_=>I⟩
 |t::l,d,n,I=>by have S:=KL t d n I;simp only[eR];split;rename_i y m W;rw[W]at S;have V:=S.2.2 cS;have U:=S.1;simp only at V U;have D:=JT l d m V;split;rename_i r J Y;rw[Y]at D;have:=D.1;exact⟨u7,D.2.1,λ_=>D.2.2 cS⟩;rename_i J Y;rw[Y]at D;have:=D.1;exact⟨u7,D.2.1,cS⟩;rename_i m W;rw[W]at S;have V:=S.1;have U:=S.2.1;simp only at V U;exact⟨u7,U,cS⟩
end
def aM(n:Nd):Ty×Int:=match (gQ n 1 300).1 with
 |some t=>if bA t then(t,0)else(.mk 0 [],1)
 |none=>(.mk 0 [],1)
mutual
def Xr:Ty->Nd
 |.mk T Y => .mk 2 0 T [] (QU Y)
def QU:Γ->Θ
 |[]=>[]
 |t::l=>Xr t::QU l
end
def rX:Nd := .mk 0 0 0 [] []
def kg:Ty := .mk 0 []
def aiG(t:Ty):Nd×Int:=if bA t then(Xr t,0)else(rX,1)
mutual
def cx:Ty->Ty->Bool
 |.mk T l,.mk U r=>T==U&&gS l r
def gS:Γ->Γ->Bool
 |[],[]=>true
 |t::l,u::r=>cx t u&&gS l r
 |_,_=>false
end
mutual
def rJ:Nd->Nd->Bool
 |.mk a b c s l,.mk U V T Y p=>a==U&&b==V&&c==T&&s==Y&&mq l p
def mq:Θ->Θ->Bool
 |[],[]=>true
 |t::l,u::r=>rJ t u&&mq l r
 |_,_=>false
end
mutual
def eD:∀(t u:Ty),cx t u↔t=u
 |.mk T l,.mk U r=>by simp[cx,lE l r]
def lE:∀(t u:Γ),gS t u↔t=u
 |[],[]=>by simp[gS]
 |[],_::_=>by simp[gS]
 |_::_,[]=>by simp[gS]
 |t::l,u::r=>by simp[gS,eD t u,lE l r]
end
mutual
def Vj:∀(t u:Nd),rJ t u↔t=u
 |.mk a b c s l,.mk U V T Y p=>by simp[rJ,Ao l p,and_assoc]
def Ao:∀(t u:Θ),mq t u↔t=u
 |[],[]=>by simp[mq]
 |[],_::_=>by simp[mq]
 |_::_,[]=>by simp[mq]
 |t::l,u::r=>by simp[mq,Vj t u,Ao l r]
end
mutual
def ae6:Ty->Bool
 |.mk T Y=>decide (arity T>=0)&&abV Y
def abV:Γ->Bool
 |[]=>true
 |t::l=>ae6 t&&abV l
end
mutual
def ae7(Y:Bool)(q:L Int):Ty->Bool
 |.mk T V=>if q.contains T then false else if T=14/\Y=false then true else abW Y q V
def abW(Y:Bool)(q:L Int):Γ->Bool
 |[]=>true
 |t::l=>ae7 Y q t&&abW Y q l
end
def ana(t:Ty):Bool:=ae6 t&&ae7 true [8,10,13,14,15] t
mutual
def Bz:Ty->Int->Int->Bool×Int
 |.mk T Y,d,left=>if d=0\/left=0\/arity T≠Y.length then(false,0)else
  match Ap Y (d-1) (left-1)with
  |(true,m)=>(if T=13\/T=15 then jG Y else true,m)
  |(false,_)=>(false,0)
def Ap:Γ->Int->Int->Bool×Int
 |[],_,left=>(true,left)
 |t::l,d,left=>match Bz t d left with
  |(true,m)=>Ap l d m
  |(false,_)=>(false,0)
end
mutual
def Sl:∀(t:Ty)(d n:Int),d<=25->n<=300->(Bz t (25-d) (300-n)).1=(gA t d n).1/\((gA t d n).1->(Bz t (25-d) (300-n)).2=300-(gA t d n).2)
 |.mk T Y,d,n,A,I=>by simp only[gA,Bz];by_cases h:d>24\/n+1>300\/arity T≠Y.length;grind;rw[if_neg h,if_neg ai];have S:=Mf Y (d+1) (n+1) ai ai;grind
def Mf:∀(l:Γ)(d n:Int),d<=25->n<=300->(Ap l (25-d) (300-n)).1=(fy l d n).1/\((fy l d n).1->(Ap l (25-d) (300-n)).2=300-(fy l d n).2)
 |[],d,n,A,I=>by simp[fy,Ap]
 |t::l,d,n,A,I=>by
  have S:=Sl t d n A I;have u:=wu t d n I;simp only[fy,Ap];rcases P:gA t d n with ⟨b,m⟩
  rcases V:Bz t (25-d) (300-n)with ⟨W,J⟩
  rw[P,V]at S;rw[P]at u;obtain⟨Y,Q⟩:=S;simp only at Y Q u;subst Y;cases W;simp;simp only;rw[Q rfl];exact Mf l d m A (u.2.2 Z)
end
def Lb(t):(Bz t 24 300).1=bA t:=by have:=(Sl t 1 0 ai ai).1;simpa[bA]using this
mutual
def abX:Nd->Int->Int->Ty×Int
 |.mk T n p s Y,d,left=>if T≠2\/n≠0\/s≠[]\/d=0\/left-1<0 then(kg,left-1)else
  match abY Y (d-1) (left-1)with
  |(l,m)=>(.mk p l,m)
def abY:Θ->Int->Int->Γ×Int
 |[],_,left=>([],left)
 |x::l,d,left=>match abX x d left with
  |(t,m)=>match abY l d m with
   |(r,J)=>(t::r,J)
end
mutual
def iS:Ty->Bool
 |.mk T Y=>decide (arity T≠Y.length)||oX Y
def oX:Γ->Bool
 |[]=>false
 |t::l=>iS t||oX l
end
mutual
def HU:∀(t:Ty)(d n:Int),iS t->(Bz t d n).1=false
 |.mk T Y,d,n,h=>by
  simp only[Bz];split;rfl;rename_i D;simp only[iS]at h;have V:oX Y:=by simp_all
  have S:=Mg Y (d-1) (n-1) V;grind
def Mg:∀(l:Γ)(d n:Int),oX l->(Ap l d n).1=false
 |[],d,n,h=>by simp[oX]at h
 |t::l,d,n,h=>by
  simp only[oX,Bool.or_eq_true]at h;simp only[Ap];rcases V:Bz t d n with ⟨b,m⟩
  cases b;rfl;have Y:oX l:=by
   rcases h with h|h
   have:=HU t d n h;rw[V]at this;simp at this;exact h
  exact Mg l d m Y
end
def ame(n:Nd):Ty×Int:=if(Bz (abX n 24 300).1 24 300).1 then((abX n 24 300).1,0)else(.mk 0 [],1)
abbrev bL:Int:=1152921504606846976
def vn(p:Int):Bool:=decide ((1<=p/\p<=15)\/(20<=p/\p<=28)\/(40<=p/\p<=95))
def iA(T n p:Int)(s:Δ)(k:Nat)(d:Int):Int :=
 if d>24 then 4
 else if T<0\/T>3\/T=2/\vn p=false then 3
 else if T≠0/\n≠0\/T≠2/\p≠0\/T≠1/\s≠[]\/T<2/\0<k then 1
 else if n < -bL\/n>bL then 2
 else if 200<s.length then 4 else 0
mutual
def fG:Nd->Int->Int
 |.mk T n p s Y,d=>if iA T n p s Y.length d=0 then dJ Y (d+1)else iA T n p s Y.length d
def dJ:Θ->Int->Int
 |[],_=>0
 |x::l,d=>if fG x d=0 then dJ l d else fG x d
end
mutual
def many:Nd->Nat
 |.mk _ _ _ _ Y=>cV Y+1
def cV:Θ->Nat
 |[]=>0
 |x::l=>many x+cV l
end
def ey(n:Nd):Int:=if fG n 1=0 then(if 300<many n then 4 else 0)else fG n 1
def E9(c m:Nat):Δ :=
 if m=0 then [byteOf (c:Nat)]else byteOf ((c+128:Nat):Int)::E9 (m%128) (m/128)
termination_by m
decreasing_by omega
def lC(n:Int):Δ:=E9 ((if n<0 then 64 else 0)+n.natAbs%64) (n.natAbs/64)
mutual
def fj:Nd->Δ
 |.mk T n p s Y =>
  if T=0 then byteOf T::lC n
  else if T=1 then byteOf T::(lC (s.length:Int)++s)
  else if T=2 then byteOf T::byteOf p::(lC (Y.length:Int)++gw Y)
  else byteOf T::(lC (Y.length:Int)++gw Y)
def gw:Θ->Δ
 |[]=>[]
 |x::l=>fj x++gw l
end
def OZ(n:Nd):Δ×Int:=if ey n=0 then(fj n,0)else([],ey n)
def uk:Δ->Nat->Nat->Option (Nat×Δ)
 |[],_,_=>none
 |b::s,n,sh=>if b.toNat=0\/sh>55 then none
  else if b.toNat>=128 then uk s (n+b.toNat%128*2^sh) (sh+7)else some (n+b.toNat%128*2^sh,s)
def nF(b:UInt8)(s:Δ):Option (Nat×Δ):=if b.toNat>=128 then uk s (b.toNat%64) 6 else some (b.toNat%64,s)
def gy:Δ->Option (Int×Δ)
 |[]=>none
 |b::s=>match nF b s with
  |none=>none
  |some (n,r)=>if(b.toNat/64%2=1/\n=0)\/n>1152921504606846976 then none else some (if b.toNat/64%2=1 then -(n:Int)else n,r)
def kE(c:Nat)(h:c<256):(byteOf c).toNat=c:=by have:=qb (c:Int);rw[show IntKind.u8.wrap (c:Int)=c from by simp[IntKind.wrap,IntKind.bits,IntKind.signed];omega]at this;omega
def nG(b):byteOf (b.toNat:Nat)=b:=by apply UInt8.toNat_inj.1;rw[kE _ b.toNat_lt]
def oI(c):E9 c 0=[byteOf c]:=by rw[E9];simp
def qt(c m)(h:m≠0):E9 c m=byteOf (c+128:Nat)::E9 (m%128) (m/128):=by rw[E9,if_neg h]
def Ye:∀m c n T r,c<128->c+128*m≠0->T%7=6->(c+128*m)*2^T<=2^60->uk (E9 c m++r) n T=some (n+(c+128*m)*2^T,r):=by
 intro m
 induction m using Nat.strongRecOn with
 |ind m S =>
  intro c n T r D C P U;have Q:T<=60:=by have h1:2^T<=2^60:=aiq (Nat.le_mul_of_pos_left _ ai) U;exact(Nat.pow_le_pow_iff_right ai).1 h1
  by_cases V:m=0;subst V;rw[oI];simp only[ahk,uk];rw[kE _ ai,if_neg ai,if_neg ai,akd D];simp;rw[qt _ _ V];simp only[ahk,uk];rw[kE _ ai,if_neg ai,if_pos ai];have e:(c+128)%128=c:=by omega
  have Y:m%128+128*(m/128)=m:=by omega
  have W:2^(T+7)=128*2^T:=by rw[Nat.pow_add];omega
  rw[e,S (m/128) ai (m%128) _ _ r ai ai ai (by
   rw[Y,W];refine aiq ?_ U;rw[<- Nat.mul_assoc,Nat.mul_comm m 128]
   exact ajG _ ai)]
  rw[Y,W];congr 2;rw[ajM,akf,<- Nat.mul_assoc,Nat.mul_comm m 128]
def JU:∀s n T v r,uk s n T=some (v,r)->∃c m,c<128/\c+128*m≠0/\s=E9 c m++r/\v=n+(c+128*m)*2^T
 |[],n,T,v,r,h=>by simp[uk]at h
 |b::s,n,T,v,r,h=>by have U:=b.toNat_lt;simp only[uk]at h;split at h;simp at h;rename_i C;split at h;rename_i V;obtain⟨c,m,D,Y,I,u⟩:=JU s _ _ v r h;have W:2^(T+7)=128*2^T:=(by rw[Nat.pow_add];omega);refine⟨b.toNat%128,c+128*m,ai,ai,?_,?_⟩;rw[qt _ _ Y,show(c+128*m)%128=c from by omega,show(c+128*m)/128=m from by omega,show b.toNat%128+128=b.toNat from by omega,nG,I];rfl;grind;rename_i V;simp at h;refine⟨b.toNat,0,ai,ai,?_,?_⟩;rw[oI,nG,h.2];rfl;grind
def vq(n r)(U : -bL<=n)(T:n<=bL):gy (lC n++r)=some (n,r):=by
 have Y:n.natAbs<=1152921504606846976:=by unfold bL at U T;omega
 unfold lC;generalize I:(if n<0 then 64 else 0:Nat)=sg;have V:(sg=64/\n<0)\/(sg=0/\0<=n):=by split at I<;>omega
 generalize O:n.natAbs=a at Y ⊢;by_cases W:a/64=0
 ·rw[W,oI];simp only[ahk,aiR,gy,nF];rw[kE _ ai,if_neg ai];simp only;rw[if_neg ai];simp only[ajB,ajP,akb];split<;>omega
 rw[qt _ _ W];simp only[ahk,gy,nF]
 rw[kE _ ai,if_pos ai,Ye _ _ _ _ _ ai ai ai (by
  rw[show a/64%128+128*(a/64/128)=a/64 from by omega];omega)]
 simp only;rw[show a/64%128+128*(a/64/128)=a/64 from by omega];have e:(sg+a%64+128)%64+a/64*2^6=a:=by omega
 rw[e,if_neg ai];simp only[ajB,ajP,akb];split<;>omega
def pO{s n r}(h:gy s=some (n,r)):s=lC n++r /\ -bL<=n/\n<=bL:=by
 cases s with
 |nil=>simp[gy]at h
 |cons b s =>
  have U:=b.toNat_lt;simp only[gy]at h;split at h;simp at h;rename_i v H u;split at h;simp at h;rename_i P;simp only[ajB,ajP]at h;obtain⟨h1,rfl⟩:=h;unfold bL;unfold nF at u;split at u
  ·rename_i D;obtain⟨c,m,T,V,I,W⟩:=JU _ _ _ _ _ u;have Y:n.natAbs=v:=(by split at h1<;>omega);refine⟨?_,aeS,aeS⟩;unfold lC;rw[Y];have A:v/64=c+128*m:=(by omega);have Q:v%64=b.toNat%64:=(by omega);rw[A,Q,qt _ _ V,show(c+128*m)%128=c from by omega,show(c+128*m)/128=m from by omega,I];have K:(if n<0 then 64 else 0:Nat)+b.toNat%64+128=b.toNat:=by split at h1<;>split<;>omega
   rw[K,nG];rfl
  rename_i D;simp at u;obtain⟨u,rfl⟩:=u;have Y:n.natAbs=v:=by split at h1<;>omega
  refine⟨?_,aeS,aeS⟩;unfold lC;rw[Y,show v/64=0 from by omega,oI,show v%64=b.toNat%64 from by omega];have K:(if n<0 then 64 else 0:Nat)+b.toNat%64=b.toNat:=by split at h1<;>split<;>omega
  rw[K,nG];rfl
def O0{s n r}(t)(h:gy s=some (n,r)):gy (s++t)=some (n,r++t):=by obtain⟨Y,V,B⟩:=pO h;rw[Y,aie];exact vq n (r++t) V B
inductive Rd (α:Type) where
 |ok (a:α) (s:List UInt8) (left:Nat)
 |no (e:Int)
def pN(f:Δ->Nat->Rd Nd):Nat->Δ->Nat->Rd (Θ)
 |0,s,left => .ok [] s left
 |k+1,s,left=>match f s left with
  |.no e => .no e
  |.ok x W Y=>match pN f k W Y with
   |.no e => .no e
   |.ok l p V => .ok (x::l) p V
def rW(f:Δ->Nat->Rd Nd)(T p:Int)(s:Δ)(left:Nat):Rd Nd :=
 match gy s with
 |none => .no 1
 |some (k,Y)=>if k<0 then .no 1 else match pN f k.toNat Y left with
  |.no e => .no e
  |.ok l W V => .ok (.mk T 0 p [] l) W V
def vM(f:Δ->Nat->Rd Nd)(c:Nat)(s:Δ)(left:Nat):Rd Nd :=
 if c=0 then(match gy s with
  |none => .no 1
  |some (n,Y) => .ok (.mk 0 n 0 [] []) Y left)
 else if c=1 then(match gy s with
  |none => .no 1
  |some (n,Y)=>if n<0\/n>200\/n>Y.length then .no 1 else .ok (.mk 1 0 0 (Y.take n.toNat) []) (Y.drop n.toNat) left)
 else if c=2 then(match s with
  |[] => .no 1
  |p::Y=>if vn p.toNat=true then rW f 2 p.toNat Y left else .no 1)
 else if c=3 then rW f 3 0 s left
 else .no 1
def gG:Nat->Δ->Nat->Rd Nd
 |0,_,_ => .no 4
 |g+1,s,left=>if left=0 then .no 4 else match s with
  |[] => .no 1
  |c::s'=>vM (gG g) c.toNat s' (left-1)
def gu(s:Δ):Nd×Int:=match gG 24 s 300 with
 |.no e=>(rX,e)
 |.ok n r _=>if r=[]then(n,0)else(rX,1)
def aeh(n):lC n≠[]:=by unfold lC;rw[E9];split<;>simp
def Mh:∀l,l.length<=cV l
 |[]=>acd _
 |.mk _ _ _ _ _::l=>by have:=Mh l;simp only[aat,cV,many];omega
def kY{T n p}{s:Δ}{Y:Θ}{d}(h:fG (.mk T n p s Y) d=0):iA T n p s Y.length d=0/\dJ Y (d+1)=0:=by simp only[fG]at h;omega
def oC{T n p s k d}(h:iA T n p s k d=0) :
  d<=24/\(T=0\/T=1\/T=2/\vn p\/T=3)/\(T≠0->n=0)/\(T≠2->p=0)/\(T≠1->s=[])/\(T<2->k=0) /\ -bL<=n/\n<=bL/\s.length<=200:=by
 unfold iA at h;split at h;omega;split at h;omega;grind
def Ba{T n p}{s:Δ}{k d}(C:d<=24)(V:T=0\/T=1\/T=2/\vn p\/T=3)(S:T≠0->n=0)(B:T≠2->p=0)(Y:T≠1->s=[])(W:T<2->k=0)(M : -bL<=n)(U:n<=bL)(H:s.length<=200):iA T n p s k d=0:=by unfold iA;grind
def Sn{p}(h:vn p):1<=p/\p<=95:=by unfold vn at h;have:=ahG h;omega
def DQ:∀(g:Nat)(n)(r)(left),left<=300->fG n (25-g)=0->many n<=left->gG g (fj n++r) left = .ok n r (left-many n)
 |0,.mk T n p s args,r,left,hl,h,V=>by have:=(oC (kY h).1).1;omega
 |g+1,.mk T n p s args,r,left,hl,h,V=>by
  obtain⟨F,z⟩:=kY h;obtain⟨o,H,I,M,U,N,S,Q,m⟩:=oC F;simp only[many]at V ⊢;have hf:∀(n:Nd)(r:Δ)(Y:Nat),Y<=300->fG n (25-g)=0->many n<=Y->gG g (fj n++r) Y = .ok n r (Y-many n):=λn r Y=>DQ g n r Y;have B:∀(l:Θ)(r:Δ)(Y:Nat),Y<=300->dJ l (25-g)=0->cV l<=Y->pN (gG g) l.length (gw l++r) Y = .ok l r (Y-cV l):=by
   intro l
   induction l with
   |nil=>intro r Y _ _ _;simp[pN,gw,cV]
   |cons x l G =>
    intro r Y P h V;simp only[dJ]at h;simp only[cV]at V;have u:fG x (25-g)=0:=(by by_cases K:fG x (25-g)=0;exact K;rw[if_neg K]at h;exact h);rw[if_pos u]at h;simp only[aat,pN,gw,aie,cV];rw[hf x _ Y P u ai];simp only;rw[G r _ ai h ai];simp only[Nat.sub_sub]
  have C:∀(T p:Int),dJ args (25-g)=0->rW (gG g) T p (lC (args.length:Int)++gw args++r) (left-1) = .ok (.mk T 0 p [] args) r (left-1-cV args):=by intro T p D;have:=Mh args;unfold rW;rw[aie,vq _ _ gn gn];simp only;rw[if_neg ai,show(args.length:Int).toNat=args.length from by omega,B args r (left-1) ai D ai]
  have J:dJ args (25-g)=0:=by rw[<- z];congr 1;omega
  have e:left-(cV args+1)=left-1-cV args:=by omega
  rw[e];simp only[gG];rw[if_neg ai];have E:(byteOf 0).toNat=0:=rfl;have A:(byteOf 1).toNat=1:=rfl;have y:(byteOf 2).toNat=2:=rfl;have t:(byteOf 3).toNat=3:=rfl;rcases H with rfl|rfl|⟨rfl,W⟩|rfl
  have:=N ai;rw[ajU]at this;subst this;obtain rfl:=M ai;obtain rfl:=U ai;simp only[fj,if_true,ahk,vM,E];rw[vq _ _ S Q];simp[cV];have:=N ai;rw[ajU]at this;subst this;obtain rfl:=M ai;obtain rfl:=I ai;simp only[fj,show ¬((1:Int)=0)from by omega,aiQ,if_true,ahk,vM,A,show ¬((1:Nat)=0)from by omega];rw[aie,vq _ _ gn gn];simp only;rw[if_neg af2];simp[cV];obtain rfl:=I ai;obtain rfl:=U ai;have j:=Sn W;have O:(byteOf p).toNat=p:=(by obtain⟨q,rfl⟩:∃q:Nat,p=q:=⟨p.toNat,ai⟩;rw[kE _ ai]);simp only[fj,show ¬((2:Int)=0)from by omega,show ¬((2:Int)=1)from by omega,aiQ,if_true,ahk,vM,y,show ¬((2:Nat)=0)from by omega,show ¬((2:Nat)=1)from by omega];rw[O,if_pos W,C 2 p J];obtain rfl:=I ai;obtain rfl:=U ai;obtain rfl:=M ai;simp only[fj,show ¬((3:Int)=0)from by omega,show ¬((3:Int)=1)from by omega,show ¬((3:Int)=2)from by omega,aiQ,if_true,ahk,vM,t,show ¬((3:Nat)=0)from by omega,show ¬((3:Nat)=1)from by omega,show ¬((3:Nat)=2)from by omega];rw[C 3 0 J]
def Bb:∀(g)(s)(left)(n)(r:Δ)(Y),g<=24->gG g s left = .ok n r Y->s=fj n++r/\fG n (25-g)=0/\left=Y+many n
 |0,s,left,n,r,Y,_,h=>by simp[gG]at h
 |g+1,s,left,n,r,Y,hg,h=>by
  have J:=λs left n r Y=>Bb g s left n r Y ai;have B:∀(k:Nat)(s:Δ)(left:Nat)(l:Θ)(r:Δ)(Y:Nat),pN (gG g) k s left = .ok l r Y->s=gw l++r/\dJ l (25-g)=0/\left=Y+cV l/\l.length=k:=by
   intro k
   induction k with
   |zero=>intro s left l r Y h;simp[pN]at h;obtain⟨rfl,rfl,rfl⟩:=h;simp[gw,dJ,cV]
   |succ k P =>
    intro s left l r Y h;simp only[pN]at h;split at h;simp at h;rename_i x j i H;split at h;simp at h;rename_i f q F E;simp at h;obtain⟨rfl,rfl,rfl⟩:=h;obtain⟨z,y,d⟩:=J _ _ _ _ _ H;obtain⟨U,G,Q,M⟩:=P _ _ _ _ _ E;refine⟨?_,?_,?_,?_⟩;rw[z,U];simp[gw];simp[dJ,y,G];simp only[cV];omega;simp[M]
  have C:∀(T p:Int)(s:Δ)(left:Nat)(n:Nd)(r:Δ)(Y:Nat),rW (gG g) T p s left = .ok n r Y->∃l,n = .mk T 0 p [] l/\s=lC (l.length:Int)++gw l++r/\dJ l (25-g)=0/\left=Y+cV l:=by intro T p s left n r Y h;unfold rW at h;split at h;simp at h;rename_i k O t;split at h;simp at h;rename_i b;split at h;simp at h;rename_i l q F E;simp at h;obtain⟨rfl,rfl,rfl⟩:=h;obtain⟨U,G,Q,M⟩:=B _ _ _ _ _ _ E;obtain⟨t1,_,_⟩:=pO t;refine⟨l,Z,?_,G,Q⟩;rw[t1,U,M,aie,show(k.toNat:Int)=k from by omega]
  simp only[gG]at h;split at h;simp at h;rename_i E;cases s with
  |nil=>simp at h
  |cons c s =>
   simp only at h;have A:(25-((g+1:Nat):Int))<=24:=(by omega);have S:(25-((g+1:Nat):Int))+1=25-(g:Int):=(by omega);have W:=nG c;unfold vM at h;split at h;rename_i D;split at h;simp at h;rename_i v O u;simp at h;obtain⟨rfl,rfl,rfl⟩:=h;obtain⟨t1,I,K⟩:=pO u;refine⟨?_,?_,by simp only[many,cV];omega⟩;simp only[fj,if_true];rw[t1,<- W,D];rfl;simp only[fG];rw[if_pos (Ba A (.inl Z) cS cS cS cS I K cS)];rfl;rename_i o;split at h;rename_i D;split at h;simp at h;rename_i v O u;split at h;simp at h;rename_i a;simp at h;obtain⟨rfl,rfl,rfl⟩:=h;obtain⟨t1,I,K⟩:=pO u;have V:(O.take v.toNat).length=v.toNat:=(by rw[ahZ];omega);refine⟨?_,?_,by simp only[many,cV];omega⟩;simp only[fj,show ¬((1:Int)=0)from by omega,aiQ,if_true];rw[V,show(v.toNat:Int)=v from by omega,t1,<- W,D];simp[aie];simp only[fG];rw[if_pos (Ba A (.inr (.inl Z)) cS cS cS cS gn gn (by rw[V];omega))];rfl;rename_i ET;split at h
   ·rename_i D;cases s with
    |nil=>simp at h
    |cons p s =>
     simp only at h;split at h;rename_i m;obtain⟨l,rfl,U,G,Q⟩:=C _ _ _ _ _ _ _ h;have N:=nG p;refine⟨?_,?_,by simp only[many];omega⟩;simp only[fj,show ¬((2:Int)=0)from by omega,show ¬((2:Int)=1)from by omega,aiQ,if_true];rw[U,N,<- W,D];rfl;simp only[fG];rw[if_pos (Ba A (.inr (.inr (.inl ⟨Z,m⟩))) cS cS cS cS gn gn cS),S];exact G;simp at h
   rename_i AU;split at h;rename_i D;obtain⟨l,rfl,U,G,Q⟩:=C _ _ _ _ _ _ _ h;refine⟨?_,?_,by simp only[many];omega⟩;simp only[fj,show ¬((3:Int)=0)from by omega,show ¬((3:Int)=1)from by omega,show ¬((3:Int)=2)from by omega,aiQ];rw[U,<- W,D];rfl;simp only[fG];rw[if_pos (Ba A (.inr (.inr (.inr Z))) cS cS cS cS gn gn cS),S];exact G;simp at h
def So{g s}(t){left n}{r:Δ}{Y}(N:g<=24)(E:left<=300)(h:gG g s left = .ok n r Y):gG g (s++t) left = .ok n (r++t) Y:=by obtain⟨V,U,B⟩:=Bb g s left n r Y N h;rw[V,aie,DQ g n (r++t) left E U ai,show left-many n=Y from by omega]
def Mi:∀g s left e,g<=24->left<=300->gG g s left = .no e->e=1\/e=4/\∀t,gG g (s++t) left = .no 4
 |0,s,left,e,_,_,h=>by simp[gG]at h;right;exact⟨h.symm,λt=>rfl⟩
 |g+1,s,left,e,hg,anc,h=>by
  have B:∀(k:Nat)(s:Δ)(left:Nat)(e:Int),left<=300->pN (gG g) k s left = .no e->e=1\/e=4/\∀t,pN (gG g) k (s++t) left = .no 4:=by
   intro k
   induction k with
   |zero=>intro s left e _ h;simp[pN]at h
   |succ k U =>
    intro s left e E h;simp only[pN]at h;split at h;rename_i A Y;simp at h;subst h;refine(Mi g s left _ ai E Y).imp id λ⟨F,D⟩=>⟨F,λt=>?_⟩;simp only[pN,D t];rename_i x H N O;have J:=(Bb g _ _ _ _ _ ai O).2.2;split at h;rename_i A Y;simp at h;subst h;refine(U H N _ ai Y).imp id λ⟨F,D⟩=>⟨F,λt=>?_⟩;simp only[pN,So t ai E O,D t];simp at h
  have C:∀(T p:Int)(s:Δ)(left:Nat)(e:Int),left<=300->rW (gG g) T p s left = .no e->e=1\/e=4/\∀t,rW (gG g) T p (s++t) left = .no 4:=by intro T p s left e E h;unfold rW at h;split at h;simp_all;rename_i k G I;split at h;simp_all;rename_i M;split at h;rename_i A Y;simp at h;subst h;refine(B _ _ _ _ E Y).imp id λ⟨F,D⟩=>⟨F,λt=>?_⟩;unfold rW;rw[O0 t I];simp only;rw[if_neg M,D t];simp at h
  simp only[gG]at h;split at h;rename_i W;simp at h;subst h;right;exact⟨Z,λt=>by simp only[gG,if_pos W]⟩;rename_i W;cases s with
  |nil=>simp at h;exact .inl h.symm
  |cons c s =>
   simp only at h;unfold vM at h;split at h;grind;rename_i V;split at h;grind;rename_i P;split at h
   ·rename_i S;cases s with
    |nil=>simp at h;exact .inl h.symm
    |cons p s =>
     simp only at h;split at h;rename_i K;refine(C _ _ _ _ _ ai h).imp id λ⟨F,D⟩=>⟨F,λt=>?_⟩;simp only[gG,if_neg W,ahk,vM,if_neg V,if_neg P,if_pos S,if_pos K,D t];simp_all
   rename_i S;split at h;rename_i Q;refine(C _ _ _ _ _ ai h).imp id λ⟨F,D⟩=>⟨F,λt=>?_⟩;simp only[gG,if_neg W,ahk,vM,if_neg V,if_neg P,if_neg S,if_pos Q,D t];simp_all
def lF{n}:ey n=0↔fG n 1=0/\many n<=300:=by unfold ey;split;omega;rename_i h;simp[h]
def MO{s}(h:(gu s).2=0):ey (gu s).1=0/\fj (gu s).1=s:=by unfold gu at h ⊢;split at h;rename_i e Y;subst h;have:=Mi 24 s 300 0 ai ai Y;omega;rename_i n r l I;obtain⟨U,T,B⟩:=Bb 24 _ _ _ _ _ ai I;split at h;rename_i V;simp only[if_pos V];refine⟨lF.2 ⟨T,ai⟩,by rw[U,V,ahq]⟩;omega
def Qd{s}(h:(gu s).2≠0):(gu s).1=rX:=by unfold gu at h ⊢;split at h;rfl;grind
def cL:Ty->Int | .mk T _=>T
def aQ:Ty->Γ | .mk _ l=>l
def aL(t:Ty)(i:Nat):Ty:=(aQ t).getD i kg
def vK:Vl->Int | .mk k _ _ _ _ _ _=>k
def vN:Vl->Int | .mk _ n _ _ _ _ _=>n
def vS:Vl->Δ | .mk _ _ _ s _ _ _=>s
def cP:Vl->Ξ | .mk _ _ _ _ l _ _=>l
def jl:Vl := .mk 0 0 0 [] [] [] []
mutual
def iG:Vl->Nat
 |.mk _ _ _ s Y _ _=>1+s.length/8+jA Y
def jA:Ξ->Nat
 |[]=>0
 |x::l=>iG x+jA l
end
mutual
def oF:Vl->Vl->Bool
 |.mk k n a s l t c,.mk V Y U W p E T=>k==V&&n==Y&&a==U&&s==W&&qj l p&&gS t E&&mq c T
def qj:Ξ->Ξ->Bool
 |[],[]=>true
 |t::l,u::r=>oF t u&&qj l r
 |_,_=>false
end
mutual
def L5:∀(t u:Vl),oF t u↔t=u
 |.mk k n a s l t c,.mk S Y U V p W T=>by simp[oF,JV l p,lE t W,Ao c T,and_assoc]
def JV:∀(t u:Ξ),qj t u↔t=u
 |[],[]=>by simp[qj]
 |[],_::_=>by simp[qj]
 |_::_,[]=>by simp[qj]
 |t::l,u::r=>by simp[qj,L5 t u,JV l r]
end
def yw(a b:Int):Int:=if a<b then -1 else if a>b then 1 else 0
def fS(a b:Δ):Int:=if Op.bytesLess a b then -1 else if Op.bytesLess b a then 1 else 0
mutual
def ee:Vl->Vl->Int
 |.mk k n a s S P code,.mk O W T U Q Y V =>
  if k=6 then fS s U
  else if k=9 then(if yw S.length Q.length=0 then kN S Q else yw S.length Q.length)
  else if k=11 then kN S Q
  else if k=12 then(if yw n W=0 then kN S Q else yw n W)
  else yw n W
def kN:Ξ->Ξ->Int
 |x::l,y::r=>if ee x y=0 then kN l r else ee x y
 |_,_=>0
end
def cG:Vl->Bool
 |.mk k n a s V Y code =>
  if k=15 then decide (Y.length=0/\code.length=0/\s=[])
  else if k=8 then decide (Y.length=1/\code.length=0/\s=[])
  else if k=14 then decide (Y.length=2/\a=0/\n=0/\s=[]/\V.length=0)
  else if k=6 then decide (Y.length=0/\code.length=0/\a=0/\n=0/\V.length=0)
  else decide (Y.length=0/\code.length=0/\a=0/\s=[])
def ou(x:Vl):Vl:=(cP x).getD 0 jl
def Cu:Ξ->Bool
 |[]=>true
 |x::l=>match l with
  |[]=>true
  |y::_=>decide (ee (ou x) (ou y)<0)&&Cu l
mutual
def bJ:Vl->Ty->Bool
 |.mk k n a s Y V code,t =>
  if k≠cL t\/cG (.mk k n a s Y V code)=false\/200<s.length then false
  else if k=1\/k=6 then decide (n=0/\Y.length=0)
  else if k=2 then decide (0<=n/\n<=1/\Y.length=0)
  else if k=3 then decide (-bL<=n/\n<=bL/\Y.length=0)
  else if k=4\/k=5 then decide (0<=n/\n<=bL/\Y.length=0)
  else if k=7 then decide (0<=n/\n<12/\Y.length=0)
  else if k=9 then decide (n=0/\Y.length<=1)&&aS Y (aL t 0)
  else if k=10 then decide (n=0/\Y.length<=24)&&aS Y (aL t 0)
  else if k=11 then decide (n=0/\Y.length=2)&&dM Y (aQ t)
  else if k=12 then decide (0<=n/\n<=1/\Y.length=1)&&aS Y (aL t n.toNat)
  else if k=13 then decide (n=0/\Y.length<=24)&&aS Y (.mk 11 (aQ t))&&Cu Y
  else if k=14 then cx (aL t 0) (V.getD 0 kg)&&cx (aL t 1) (V.getD 1 kg)
  else if k=15 then decide (1<=n/\n<=bL/\0<=a/\a<12/\Y.length=1)&&aS Y (aL t 0)
  else if k=8 then decide (0<=n/\n<=bL/\0<=a/\a<12/\Y.length=1)&&bA (V.getD 0 kg)&&aS Y (V.getD 0 kg)
  else false
def aS:Ξ->Ty->Bool
 |[],_=>true
 |x::l,t=>bJ x t&&aS l t
def dM:Ξ->Γ->Bool
 |x::l,t::r=>bJ x t&&dM l r
 |_,_=>true
end
def oJ(t:Ty)(v:Vl):Bool:=bA t&&bJ v t
def eI(t):∀l,aS l t↔∀x∈l,bJ x t
 |[]=>by simp[aS]
 |x::l=>by simp[aS,eI t l]
def ajs(t:Ty)(a b:Vl):Int×Int:=if oJ t a=true/\oJ t b/\fZ t then(ee a b,0)else(0,5)
def aei(a b):yw a b = -yw b a:=by unfold yw;split<;>split<;>(try split)<;>omega
def A4(a b) : -1<=yw a b/\yw a b<=1:=by unfold yw;split<;>(try split)<;>omega
def pP{a b}:yw a b=0↔a=b:=by unfold yw;split<;>(try split)<;>omega
def Sp(x y z:Int):Prop:=(x<=0->y<=0->z<=0/\(z=0↔x=0/\y=0))/\(x>=0->y>=0->z>=0/\(z=0↔x=0/\y=0))
def abZ(a b c):Sp (yw a b) (yw b c) (yw a c):=by unfold Sp yw;constructor<;>intro Y V<;>split at Y<;>split at V<;>split<;>(try split at Y)<;>(try split at V)<;>(try split)<;>omega
def F9:∀(a:Δ),Op.bytesLess a a=false
 |[]=>rfl
 |x::a=>by simp[Op.bytesLess,F9 a]
def JW:∀(a b:Δ),Op.bytesLess a b->Op.bytesLess b a=false
 |[],[],h=>by simp[Op.bytesLess]at h
 |[],_::_,_=>rfl
 |_::_,[],h=>by simp[Op.bytesLess]at h
 |x::a,y::b,h=>by
  simp only[Op.bytesLess,Bool.or_eq_true,aiP,aaI,akO]at h;simp only[Op.bytesLess,aiw,ajA,Bool.and_eq_false_iff];rw[akN]at *;rcases h with h|⟨rfl,h⟩
  grind;exact⟨ai,.inr (JW a b h)⟩
def JX:∀(a b:Δ),Op.bytesLess a b=false->Op.bytesLess b a=false->a=b
 |[],[],_,_=>rfl
 |[],_::_,h,_=>by simp[Op.bytesLess]at h
 |_::_,[],_,h=>by simp[Op.bytesLess]at h
 |x::a,y::b,h,h'=>by simp only[Op.bytesLess,aiw,ajA,akN]at h h';have e:x=y:=UInt8.toNat_inj.1 ai;subst e;rw[JX a b (by simpa using h.2) (by simpa using h'.2)]
def JY:∀(a b c:Δ),Op.bytesLess a b->Op.bytesLess b c->Op.bytesLess a c
 |_,[],[],_,h=>by simp[Op.bytesLess]at h
 |_,_::_,[],_,h=>by simp[Op.bytesLess]at h
 |_,[],_::_,h,_=>by simp[Op.bytesLess]at h
 |[],_::_,_::_,_,_=>rfl
 |x::a,y::b,z::c,h,E=>by
  simp only[Op.bytesLess,Bool.or_eq_true,aiP,aaI,akO,akN]at h E ⊢;rcases h with h|⟨rfl,h⟩
  grind;rcases E with E|⟨rfl,E⟩
  omega;right;exact⟨Z,JY a b c h E⟩
def qu(a b):fS a b = -fS b a:=by unfold fS;cases h:Op.bytesLess a b;grind;rw[JW a b h];simp
def DR(a b) : -1<=fS a b/\fS a b<=1:=by unfold fS;split<;>(try split)<;>omega
def Aq{a b}:fS a b=0↔a=b:=by constructor;intro h;unfold fS at h;cases Y:Op.bytesLess a b;cases V:Op.bytesLess b a;exact JX a b Y V;grind;grind;rintro rfl;simp[fS,F9]
def Fc{a b}:fS a b<0↔Op.bytesLess a b:=by unfold fS;grind
def Sq(a b c):Sp (fS a b) (fS b c) (fS a c):=by
 have Y:∀a b c,fS a b<=0->fS b c<=0->fS a c<=0/\(fS a c=0↔fS a b=0/\fS b c=0):=by intro a b c T P;by_cases A:fS a b=0;obtain rfl:=Aq.1 A;omega;by_cases Q:fS b c=0;obtain rfl:=Aq.1 Q;omega;have W:=Fc.1 (show fS a b<0 by omega);have V:=Fc.1 (show fS b c<0 by omega);have U:=Fc.2 (JY _ _ _ W V);omega
 refine⟨Y a b c,λT P=>?_⟩;have:=Y c b a (by rw[qu];omega) (by rw[qu];omega);have q:=qu a b;have S:=qu b c;have n3:=qu a c;omega
def Yf{x y z K Y W}(h:Sp x y z)(E:x=0->y=0->Sp K Y W):Sp (if x=0 then K else x) (if y=0 then Y else y) (if z=0 then W else z):=by unfold Sp at *;by_cases ex:x=0;omega;omega
def O1:Ξ->Γ->Prop
 |[],_=>True
 |x::l,t::r=>bJ x t=true/\fZ t/\iS t=false/\O1 l r
 |_::_,[]=>False
def dP:∀{l x},oX l=false->x∈l->iS x=false
 |[],_,_,h=>by simp at h
 |t::l,x,hb,h=>by
  simp only[oX,aiw]at hb;rcases List.mem_cons.1 h with rfl|h
  grind;exact dP hb.2 h
def wo{p:Int->Bool}:∀{l x},oW p l->x∈l->vE p x
 |[],_,_,h=>by simp at h
 |t::l,x,hb,h=>by
  simp only[oW,aaI]at hb;rcases List.mem_cons.1 h with rfl|h
  grind;exact wo hb.2 h
def nq{t i}(h:i<(aQ t).length):aL t i∈aQ t:=by unfold aL;rw[aiC,ahl h];exact akF h
def jw{t}(h:iS t=false):arity (cL t)=(aQ t).length/\oX (aQ t)=false:=by cases t with|mk T l=>simpa[iS,cL,aQ]using h
def Cr{t}(h:fZ t):Bq (cL t)/\oW Bq (aQ t):=by cases t with|mk T l=>simpa[fZ,vE,cL,aQ]using h
def Sr{t}(D:fZ t)(U:iS t=false){i:Nat}(h:i<arity (cL t)):fZ (aL t i)/\iS (aL t i)=false:=by have V:=jw U;have T:=Cr D;have Y:aL t i∈aQ t:=nq ai;exact⟨wo T.2 Y,dP V.2 Y⟩
def Ss{l t}(E:l.length<=1)(h:aS l t)(D:fZ t)(U:iS t=false):O1 l [t]:=by
 cases l with
 |nil=>trivial
 |cons x l =>
  cases l with
  |nil=>simp only[aS,aaI]at h;exact⟨h.1,D,U,trivial⟩
  |cons y l=>simp at E
def Su:∀{l Y},l.length=Y.length->dM l Y->oW Bq Y->oX Y=false->O1 l Y
 |[],_,_,_,_,_=>trivial
 |x::l,[],h,_,_,_=>by simp at h
 |x::l,t::Y,h,V,D,U=>by simp only[dM,aaI]at V;simp only[oW,aaI]at D;simp only[oX,aiw]at U;exact⟨V.1,D.1,U.1,Su nu V.2 D.2 U.2⟩
def Sv{T}(h:Bq T):T=1\/T=2\/T=3\/T=4\/T=5\/T=6\/T=7\/T=9\/T=11\/T=12:=by
 have Y:T≠8/\T≠10/\T≠13/\T≠14/\T≠15/\arity T>=0:=by simp only[Bq,aaI,aln,aiP]at h;omega
 have V:=Y.2.2.2.2.2;unfold arity at V;omega
def sU{k n a}{s:Δ}{V:Ξ}{Y:Γ}{code:Θ}{t}(h:bJ (.mk k n a s V Y code) t):k=cL t/\cG (.mk k n a s V Y code)/\s.length<=200:=by by_cases D:k≠cL t\/cG (.mk k n a s V Y code)=false\/200<s.length;simp only[bJ,if_pos D]at h;simp at h;grind
def Fe{k n a}{s:Δ}{O:Ξ}{N:Γ}{code:Θ}{t}(h:bJ (.mk k n a s O N code) t)(D:fZ t)(T:iS t=false) :
  k=cL t/\a=0/\N=[]/\code=[]/\(k=6/\n=0/\O=[]\/(k≠6/\k≠9/\k≠11/\k≠12)/\s=[]/\O=[]\/k=9/\n=0/\s=[]/\O.length<=1/\O1 O [aL t 0] \/
   k=11/\n=0/\s=[]/\O.length=2/\O1 O (aQ t)\/k=12/\s=[]/\O.length=1/\O1 O [aL t n.toNat]):=by
 obtain⟨M,K,B⟩:=sU h;have P:=Sv (Cr D).1;rw[<- M]at P;have S:¬(k≠cL t\/cG (.mk k n a s O N code)=false\/200<s.length):=by simp_all
 simp only[bJ,if_neg S]at h;have Q:=(jw T).1;rw[<- M]at Q;simp only[cG]at K;rcases P with rfl|rfl|rfl|rfl|rfl|rfl|rfl|rfl|rfl|rfl
 all_goals simp at h K
 grind;grind;grind;grind;grind;simp_all;grind;obtain⟨I,V,W,U⟩:=K;have Y:=Sr D T (i:=0) (by rw[<- M];decide);exact⟨M,W,I,V,.inr (.inr (.inl ⟨Z,h.1.1,U,h.1.2,Ss h.1.2 h.2 Y.1 Y.2⟩))⟩
 ·obtain⟨I,V,W,U⟩:=K;have e:(aQ t).length=2:=by(have:arity 11=2:=by decide);omega
  exact⟨M,W,I,V,.inr (.inr (.inr (.inl ⟨Z,h.1.1,U,h.1.2,Su ai h.2 (Cr D).2 (jw T).2⟩)))⟩
 obtain⟨I,V,W,U⟩:=K;have Y:=Sr D T (i:=n.toNat) (by(rw[<- M];have:arity 12=2:=by decide);omega);exact⟨M,W,I,V,.inr (.inr (.inr (.inr ⟨Z,U,h.1.2.2,Ss ai h.2 Y.1 Y.2⟩)))⟩
structure vr(x u y z:Int)(e:Prop):Prop where
 neg:x = -u
 lo : -1<=x
 hi:x<=1
 zero:x=0↔e
 ag7:Sp x y z
def vr.yw(a b c){e}(Y:a=b↔e):vr (yw a b) (Go.cE.yw b a) (Go.cE.yw b c) (Go.cE.yw a c) e:=⟨aei a b,(A4 a b).1,(A4 a b).2,pP.trans Y,abZ a b c⟩
def vr.then{x u y z K q W V e e' Y}(h:vr x u y z e)(E:x=0->y=0->vr K q W V e')(T:x=0->K = -q /\ -1<=K/\K<=1/\(K=0↔e'))(U:e/\e'↔Y) :
  vr (if x=0 then K else x) (if u=0 then q else u) (if y=0 then W else y) (if z=0 then V else z) Y:=by
 have I:=h.neg;refine⟨?_,?_,?_,?_,Yf h.ag7 λS B=>(E S B).ag7⟩;by_cases O:x=0;rw[if_pos O,if_pos ai];exact(T O).1;rw[if_neg O,if_neg ai];exact I;by_cases O:x=0;rw[if_pos O];exact(T O).2.1;rw[if_neg O];exact h.lo;by_cases O:x=0;rw[if_pos O];exact(T O).2.2.1;rw[if_neg O];exact h.hi;by_cases O:x=0;rw[if_pos O,(T O).2.2.2,<- U];simp[h.zero.1 O];rw[if_neg O,<- U];constructor;intro p;exact absurd p O;intro p;exact absurd (h.zero.2 p.1) O
mutual
def AZ:∀(a b c:Vl)(t:Ty),fZ t->iS t=false->bJ a t->bJ b t->bJ c t->vr (ee a b) (ee b a) (ee b c) (ee a c) (a=b)
 |.mk k n a s F x code,.mk r i a' s' Q E B,.mk f d a2 s2 W bl bN,t,D,K,h1,h2,h3=>by
  obtain⟨e1,rfl,rfl,rfl,f1⟩:=Fe h1 D K;obtain⟨u,rfl,rfl,rfl,G⟩:=Fe h2 D K;obtain⟨e3,rfl,rfl,rfl,C⟩:=Fe h3 D K;obtain rfl:r=k:=by rw[e1,u]
  obtain rfl:f=r:=by rw[u,e3]
  rcases f1 with ⟨z,y,M⟩|⟨z,y,M⟩|⟨z,y,M,q,S⟩|⟨z,y,M,q,S⟩|⟨z,M,q,S⟩
  ·rcases G with ⟨p,O,V⟩|⟨p,_⟩|⟨p,_⟩|⟨p,_⟩|⟨p,_⟩<;>first|omega|skip
   rcases C with ⟨_,P,U⟩|⟨Y,_⟩|⟨Y,_⟩|⟨Y,_⟩|⟨Y,_⟩<;>first|omega|skip
   subst y M O V P U;simp only[ee,if_pos z];exact⟨qu _ _,(DR _ _).1,(DR _ _).2,by simp[Aq],Sq _ _ _⟩
  ·rcases G with ⟨p,_⟩|⟨p,O,V⟩|⟨p,_⟩|⟨p,_⟩|⟨p,_⟩<;>first|omega|skip
   rcases C with ⟨Y,_⟩|⟨Y,P,U⟩|⟨Y,_⟩|⟨Y,_⟩|⟨Y,_⟩<;>first|omega|skip
   subst y M O V P U;simp only[ee,if_neg z.1,if_neg z.2.1,if_neg z.2.2.1,if_neg z.2.2.2];exact vr.yw n i d cS
  ·rcases G with ⟨p,_⟩|⟨p,_⟩|⟨p,O,V,o,T⟩|⟨p,_⟩|⟨p,_⟩<;>first|omega|skip
   rcases C with ⟨Y,_⟩|⟨Y,_⟩|⟨Y,P,U,m,J⟩|⟨Y,_⟩|⟨Y,_⟩<;>first|omega|skip
   subst y M O V P U z;simp only[ee,show ¬((9:Int)=6)from by omega,aiQ,if_true];refine vr.then (vr.yw _ _ _ (Iff.rfl)) (λN A=>?_) (λN=>?_) (e':=F=Q) ?_
   have I:=pP.1 N;have j:=pP.1 A;exact w9 F Q W _ S T J ai ai;have I:=pP.1 N;have:=w9 F Q Q _ S T T ai Z;exact⟨this.neg,this.lo,this.hi,this.zero⟩;constructor;rintro⟨_,rfl⟩;rfl;intro h;simp at h;exact⟨by rw[h],h⟩
  ·rcases G with ⟨p,_⟩|⟨p,_⟩|⟨p,_⟩|⟨p,O,V,o,T⟩|⟨p,_⟩<;>first|omega|skip
   rcases C with ⟨Y,_⟩|⟨Y,_⟩|⟨Y,_⟩|⟨Y,P,U,m,J⟩|⟨Y,_⟩<;>first|omega|skip
   subst y M O V P U z;simp only[ee,show ¬((11:Int)=6)from by omega,show ¬((11:Int)=9)from by omega,aiQ,if_true];have:=w9 F Q W _ S T J ai ai;exact⟨this.neg,this.lo,this.hi,by rw[this.zero];simp,this.ag7⟩
  rcases G with ⟨p,_⟩|⟨p,_⟩|⟨p,_⟩|⟨p,_⟩|⟨p,V,o,T⟩<;>first|omega|skip
  rcases C with ⟨Y,_⟩|⟨Y,_⟩|⟨Y,_⟩|⟨Y,_⟩|⟨Y,U,m,J⟩<;>first|omega|skip
  subst M V U z;simp only[ee,show ¬((12:Int)=6)from by omega,show ¬((12:Int)=9)from by omega,show ¬((12:Int)=11)from by omega,aiQ,if_true];refine vr.then (vr.yw _ _ _ (Iff.rfl)) (λN A=>?_) (λN=>?_) (e':=F=Q) ?_
  have I:=pP.1 N;have j:=pP.1 A;subst I j;exact w9 F Q W _ S T J ai ai;have I:=pP.1 N;subst I;have:=w9 F Q Q _ S T T ai Z;exact⟨this.neg,this.lo,this.hi,this.zero⟩;simp
def w9:∀(a b c:Ξ)(Y:Γ),O1 a Y->O1 b Y->O1 c Y->a.length=b.length->b.length=c.length->vr (kN a b) (kN b a) (kN b c) (kN a c) (a=b)
 |[],[],[],Y,_,_,_,_,_=>by simp only[kN];exact⟨Z,ai,ai,cS,⟨λ_ _=>by simp,λ_ _=>by simp⟩⟩
 |[],_::_,_,_,_,_,_,h,_=>by simp at h
 |_::_,[],_,_,_,_,_,h,_=>by simp at h
 |[],[],_::_,_,_,_,_,_,h=>by simp at h
 |_::_,_::_,[],_,_,_,_,_,h=>by simp at h
 |x::a,y::b,z::c,[],h,_,_,_,_=>h.elim
 |x::a,y::b,z::c,t::Y,ha,K,D,h1,h2=>by have V:=AZ x y z t ha.2.1 ha.2.2.1 ha.1 K.1 D.1;have H:=w9 a b c Y ha.2.2.2 K.2.2.2 D.2.2.2 ae2 VK;simp only[kN];refine vr.then V (λ_ _=>H) (λ_=>⟨H.neg,H.lo,H.hi,H.zero⟩) cS
end
mutual
def ajt:Vl->Vl->Int
 |.mk k n a s S P code,.mk O V T U Q Y W =>
  if(if k=9 then(S.length:Int)else n)<(if k=9 then(Q.length:Int)else V)\/Op.bytesLess s U then -1
  else if(if k=9 then(S.length:Int)else n)>(if k=9 then(Q.length:Int)else V)\/Op.bytesLess U s then 1
  else ae8 S Q
def ae8:Ξ->Ξ->Int
 |x::l,y::r=>if ajt x y=0 then ae8 l r else ajt x y
 |_,_=>0
end
end Go.cE
open Go.IntKind Go.Proofs.Tryz
namespace Go.Proofs
open Go.cE
attribute [local irreducible] AK ag aZ
def yH(t):af 65 [.int .i64 t] (.int .i64 (arity t)):=by
 refine qn func65 call65 λY hf=>?_
 repeat' (first|refine sz ?_|refine zc ?_ ?_|(intro h;first|(cases h;done)|rw[h]|skip))
 all_goals simp_all [arity]
end Go.Proofs
namespace Go.Proofs
open Go.cE Go.ChangeShapes Go.WideShapes Go.ChangeAt Go.RowKit
def zC{H:Type}:∀(l:L (DataW H)),(l.map YtpnpbmbdkinajaaGreatDoor.Rows.uptoBulk).sum=YtpnpbmbdkinajaaGreatDoor.Rows.uptoBulkAll l
 |[]=>rfl
 |d::l=>by simp only[ahM,List.sum_cons,YtpnpbmbdkinajaaGreatDoor.Rows.uptoBulkAll,zC l]
def jJ{H:Type}:Ed (H:=H) YtpnpbmbdkinajaaGreatDoor.Rows.uptoBulk where
 lit:=λl=>by cases l<;>simp[YtpnpbmbdkinajaaGreatDoor.Rows.uptoBulk]
 str:=λs=>by simp[YtpnpbmbdkinajaaGreatDoor.Rows.uptoBulk]
 nil:=by simp[YtpnpbmbdkinajaaGreatDoor.Rows.uptoBulk]
 slice:=λl r=>by rw[zC];simp only[YtpnpbmbdkinajaaGreatDoor.Rows.uptoBulk];omega
 agg:=λl=>by rw[zC];simp only[YtpnpbmbdkinajaaGreatDoor.Rows.uptoBulk];omega
def RTy:CV->Nat->Prop:=λc m=>∃t:Ty,c=ct t/\afK t/\bh t<=m
def RNd:CV->Nat->Prop:=λc m=>∃t:Nd,c=aV t/\ahN t/\bE t<=m
def RVl:CV->Nat->Prop:=λc m=>∃t:Vl,c=bz t/\afM t/\aG t<=m
def HH:∀{Y:Ψ}{m:Nat},Bp RTy Y m->∃l:Γ,Y=az l/\VE l/\bf l<=m
 |[],m,_=>⟨[],Z,trivial,by simp[bf]⟩
 |r::Y,m,⟨k,m',⟨t,h1,V,B⟩,h4,h5⟩=>by obtain⟨l,A,Q,K⟩:=HH h4;exact⟨t::l,afR,⟨V,Q⟩,by simp only[bf];omega⟩
def HI:∀{Y:Ψ}{m:Nat},Bp RNd Y m->∃l:Θ,Y=aD l/\VF l/\aP l<=m
 |[],m,_=>⟨[],Z,trivial,by simp[aP]⟩
 |r::Y,m,⟨k,m',⟨t,h1,V,B⟩,h4,h5⟩=>by obtain⟨l,A,Q,K⟩:=HI h4;exact⟨t::l,afR,⟨V,Q⟩,by simp only[aP];omega⟩
def P2:∀{Y:Ψ}{m:Nat},Bp RVl Y m->∃l:Ξ,Y=aa l/\Zd l/\aH l<=m
 |[],m,_=>⟨[],Z,trivial,by simp[aH]⟩
 |r::Y,m,⟨k,m',⟨t,h1,V,B⟩,h4,h5⟩=>by obtain⟨l,A,Q,K⟩:=P2 h4;exact⟨t::l,afR,⟨V,Q⟩,by simp only[aH];omega⟩
abbrev CM:CV->Nat->Prop:=λc k=>∃z,c = .int .i64 z/\(Lit.int .i64 z).wf=true/\1<=k
abbrev ahO:CV->Nat->Prop:=λc k=>∃s,c = .str s/\s.length+1<=k
abbrev Rsl(s:Nat)(R:CV->Nat->Prop):CV->Nat->Prop:=λc k=>∃rows,c = .sl s rows/\∃J,Bp R rows J/\J+1<=k
def eO:Tryz.prog.cellsOf 3=1:=by kernel_rfl
def sL:Tryz.prog.cellsOf 9=1:=by kernel_rfl
def Ee:Tryz.prog.cellsOf 26=1:=by kernel_rfl
def K6:Tryz.prog.cellsOf 29=1:=by kernel_rfl
def Ef:Tryz.prog.cellsOf 30=1:=by kernel_rfl
def HJ:Tryz.prog.cellsOf 28=2:=by kernel_rfl
def tD:Tryz.prog.cellsOf 65=5:=by kernel_rfl
def P3:Tryz.prog.cellsOf 32=7:=by kernel_rfl
section
variable {H:Type}{enc:TypeId×Value->H}{W:World}
def Ta{m e t s:Nat}{R:CV->Nat->Prop}(p:Tryz.prog.underlying t=some (.slice e))(Y:Tryz.prog.cellsOf e=s)(C:0<s)(h:∀k,k<m->RD enc Tryz.prog W YtpnpbmbdkinajaaGreatDoor.Rows.uptoBulk k e R) :
  RD (H:=H) enc Tryz.prog W YtpnpbmbdkinajaaGreatDoor.Rows.uptoBulk m t (Rsl s R):=by
 cases m with
 |zero=>exact RD.zero
 |succ k=>exact RD.slice jJ p Y C (h k ai)
def afN:∀(n m:Nat),m<=n->RD (H:=H) enc Tryz.prog W YtpnpbmbdkinajaaGreatDoor.Rows.uptoBulk m 28 RTy
 |0,m,hm=>by(obtain rfl:m=0:=by omega);exact RD.zero
 |n+1,0,_=>RD.zero
 |n+1,m+1,hm=>by refine RD.mono (RD.struct jJ Tryz.underlying28 rfl (Rs:=[CM,Rsl 2 RTy]) (λk I=>?_) ?_) (acd _) ?_;exact⟨_,_,rfl,rfl,RD.int jJ Tryz.underlying3,_,_,rfl,ab4,Ta Tryz.underlying26 HJ bn (λq M=>afN n q ai),rfl⟩;simp only[List.map,nj,eO,Ee,HJ];rintro c k ⟨l,rfl,J,C,u⟩;obtain⟨G,Y,U,S,rfl,⟨z,rfl,P,_⟩,⟨c2,k2,l2,m2,rfl,⟨N,rfl,O,V,B⟩,rfl,h4⟩,h5⟩:=C;obtain⟨T,rfl,Q,K⟩:=HH V;exact⟨.mk z T,rfl,⟨bounds_i64 P,Q⟩,acP⟩
def Ze:∀(n m:Nat),m<=n->RD (H:=H) enc Tryz.prog W YtpnpbmbdkinajaaGreatDoor.Rows.uptoBulk m 65 RNd
 |0,m,hm=>by(obtain rfl:m=0:=by omega);exact RD.zero
 |n+1,0,_=>RD.zero
 |n+1,m+1,hm=>by
  refine RD.mono (RD.struct jJ Tryz.underlying65 Z (Rs:=[CM,CM,CM,ahO,Rsl 5 RNd]) (λk I=>?_) ?_) (acd _) ?_
  ·exact⟨_,_,Z,Z,RD.int jJ Tryz.underlying3,_,_,Z,ab4,RD.int jJ Tryz.underlying3,_,_,Z,ab4,RD.int jJ Tryz.underlying3,
    _,_,Z,ab4,RD.str jJ Tryz.underlying9,_,_,Z,by rw[eO,sL],Ta Tryz.underlying29 tD bn (λq y=>Ze n q ai),Z⟩
  simp only[List.map,nj,eO,sL,K6,tD];rintro c k ⟨l,rfl,J,C,u⟩;obtain⟨S,O,N,M,rfl,⟨z,rfl,P,_⟩,⟨c2,k2,l2,m2,rfl,⟨B,rfl,V,_⟩,⟨c3,k3,l3,m3,rfl,⟨U,rfl,Y,_⟩,⟨c4,k4,l4,m4,rfl,⟨s,rfl,K⟩,⟨c5,k5,l5,m5,rfl,⟨F,rfl,E,G,D⟩,rfl,h7⟩,h8⟩,h9⟩,h10⟩,h11⟩:=C;obtain⟨T,rfl,Q,A⟩:=HI G;exact⟨.mk z B U s T,Z,⟨bounds_i64 P,bounds_i64 V,bounds_i64 Y,Q⟩,by simp only[bE];omega⟩
def ahP:∀(n m:Nat),m<=n->RD (H:=H) enc Tryz.prog W YtpnpbmbdkinajaaGreatDoor.Rows.uptoBulk m 32 RVl
 |0,m,hm=>by(obtain rfl:m=0:=by omega);exact RD.zero
 |n+1,0,_=>RD.zero
 |n+1,m+1,hm=>by
  refine RD.mono (RD.struct jJ Tryz.underlying32 Z (Rs:=[CM,CM,CM,ahO,Rsl 7 RVl,Rsl 2 RTy,Rsl 5 RNd]) (λk A=>?_) ?_) (acd _) ?_
  ·exact⟨_,_,Z,Z,RD.int jJ Tryz.underlying3,_,_,Z,ab4,RD.int jJ Tryz.underlying3,_,_,Z,ab4,RD.int jJ Tryz.underlying3,
    _,_,Z,ab4,RD.str jJ Tryz.underlying9,_,_,Z,by rw[eO,sL],Ta Tryz.underlying30 P3 bn (λq F=>ahP n q ai),
    _,_,Z,by rw[eO,sL,Ef],Ta Tryz.underlying26 HJ bn (λq F=>afN q q (acd _)),
    _,_,Z,by rw[eO,sL,Ef,Ee],Ta Tryz.underlying29 tD bn (λq F=>Ze q q (acd _)),Z⟩
  simp only[List.map,nj,eO,sL,Ef,Ee,K6,P3];rintro c k ⟨l,rfl,p,C,u⟩;obtain⟨x,t,r,o,rfl,⟨z,rfl,P,_⟩,⟨c2,k2,l2,m2,rfl,⟨B,rfl,S,_⟩,⟨c3,k3,l3,m3,rfl,⟨Q,rfl,Y,_⟩,⟨c4,k4,l4,m4,rfl,⟨s,rfl,j⟩,⟨c5,k5,l5,m5,rfl,⟨y,rfl,i,G,f⟩,⟨c6,k6,l6,m7,rfl,⟨O,rfl,d,N,b⟩,⟨c7,k7,l7,m9,rfl,⟨M,rfl,K,V,a⟩,rfl,g8⟩,g9⟩,h7⟩,h8⟩,h9⟩,h10⟩,h11⟩:=C;obtain⟨J,rfl,I,e3⟩:=P2 G;obtain⟨U,rfl,E,f3⟩:=HH N;obtain⟨T,rfl,D,q3⟩:=HI V;exact⟨.mk z B Q s J U T,Z,⟨bounds_i64 P,bounds_i64 S,bounds_i64 Y,I,E,D⟩,acT⟩
set_option maxRecDepth 100000 in
def afO{v:Value}{d:DataW H}{V:L MemPlace}{U:Nat}{r:Reach}(Y:Value.okWide Tryz.prog W r U 28 v)(T:DataW.Trod enc Tryz.prog W 0 (λ_=>true) true 28 v d V) :
  ∃a:Ty,Rel (oU W) (ct a) v/\afK a/\bh a<=YtpnpbmbdkinajaaGreatDoor.Rows.uptoBulk d:=by
 obtain⟨c,S,h⟩:=rQ (R:=RTy) Tryz.underlying28 (λn=>afN n n (acd _)) T Y (λc k h=>by obtain⟨t,h,_⟩:=h;cases t;exact⟨_,h⟩);obtain⟨a,rfl,Q,O⟩:=h;exact⟨a,S,Q,O⟩
set_option maxRecDepth 100000 in
def afP{v:Value}{d:DataW H}{V:L MemPlace}{U:Nat}{r:Reach}(Y:Value.okWide Tryz.prog W r U 32 v)(T:DataW.Trod enc Tryz.prog W 0 (λ_=>true) true 32 v d V) :
  ∃a:Vl,Rel (oU W) (bz a) v/\afM a/\aG a<=YtpnpbmbdkinajaaGreatDoor.Rows.uptoBulk d:=by
 obtain⟨c,S,h⟩:=rQ (R:=RVl) Tryz.underlying32 (λn=>ahP n n (acd _)) T Y (λc k h=>by obtain⟨t,h,_⟩:=h;cases t;exact⟨_,h⟩);obtain⟨a,rfl,Q,O⟩:=h;exact⟨a,S,Q,O⟩
end
end Go.Proofs
