/- The data of the chain, as plain inductive types, and how they lie in memory. Package kind and its reference, as plain functions, and that they answer alike. Package tree and its reference, as plain functions, and their laws. -/
import Derived.Test.YtlohbilpimjmmaaGreatDoorLibD
import Derived.IntWalk
namespace Go.cu
theorem gZ {n:Int} (h1 : -9223372036854775808<=n) (h2:n<=9223372036854775807):IntKind.i64.wrap n=n:=IntWalk.i64_in n ⟨h1,h2⟩
inductive Ty where
 | mk (T:Int) (args:List Ty)
 deriving Inhabited
inductive Nd where
 | mk (kind n p:Int) (s:List UInt8) (args:List Nd)
 deriving Inhabited
inductive Vl where
 | mk (k n a:Int) (s:List UInt8) (args:List Vl) (types:List Ty) (code:List Nd)
 deriving Inhabited
abbrev aF (n:Int):CV := .int .i64 n
mutual
def eC:Ty->CV
 | .mk T args => .agg [.int .i64 T,.sl 2 (aE args)]
def aE:List Ty->List CV
 | []=>[]
 | t::l=>eC t::aE l
end
mutual
def aW:Nd->CV
 | .mk kind n p s args => .agg [.int .i64 kind,.int .i64 n,.int .i64 p,.str s,.sl 5 (aH args)]
def aH:List Nd->List CV
 | []=>[]
 | t::l=>aW t::aH l
end
mutual
def bP:Vl->CV
 | .mk k n a s args H B => .agg [.int .i64 k,.int .i64 n,.int .i64 a,.str s,.sl 7 (aa args),.sl 2 (aE H),.sl 5 (aH B)]
def aa:List Vl->List CV
 | []=>[]
 | t::l=>bP t::aa l
end
theorem xC:∀(l:List Ty) (i:Nat),(aE l)[i]?=l[i]?.map eC
 | [],i=>by simp[aE]
 | t::l,0=>by simp[aE]
 | t::l,i+1=>by simp[aE,xC l i]
theorem aY:∀(l:List Ty),(aE l).length=l.length
 | []=>rfl
 | t::l=>by simp[aE,aY l]
theorem Cp:∀(l:List Nd) (i:Nat),(aH l)[i]?=l[i]?.map aW
 | [],i=>by simp[aH]
 | t::l,0=>by simp[aH]
 | t::l,i+1=>by simp[aH,Cp l i]
theorem bq:∀(l:List Nd),(aH l).length=l.length
 | []=>rfl
 | t::l=>by simp[aH,bq l]
theorem jz:∀(l:List Vl) (i:Nat),(aa l)[i]?=l[i]?.map bP
 | [],i=>by simp[aa]
 | t::l,0=>by simp[aa]
 | t::l,i+1=>by simp[aa,jz l i]
theorem az:∀(l:List Vl),(aa l).length=l.length
 | []=>rfl
 | t::l=>by simp[aa,az l]
abbrev Og (n:Int):Prop := -9223372036854775808<=n/\n<=9223372036854775807
mutual
def YY:Ty->Prop
 | .mk T args=>Og T/\Ft args
def Ft:List Ty->Prop
 | []=>True
 | t::l=>YY t/\Ft l
end
mutual
def RK:Nd->Prop
 | .mk kind n p _ args=>Og kind/\Og n/\Og p/\NW args
def NW:List Nd->Prop
 | []=>True
 | t::l=>RK t/\NW l
end
mutual
def Y0:Vl->Prop
 | .mk k n a _ args H B=>Og k/\Og n/\Og a/\Jj args/\Ft H/\NW B
def Jj:List Vl->Prop
 | []=>True
 | t::l=>Y0 t/\Jj l
end
mutual
def bC:Ty->Nat
 | .mk _ args=>br args+1
def br:List Ty->Nat
 | []=>0
 | t::l=>bC t+br l
end
mutual
def bN:Nd->Nat
 | .mk _ _ _ s args=>s.length+aQ args+1
def aQ:List Nd->Nat
 | []=>0
 | t::l=>bN t+aQ l
end
mutual
def aM:Vl->Nat
 | .mk _ _ _ s args H B=>s.length+aL args+br H+aQ B+1
def aL:List Vl->Nat
 | []=>0
 | t::l=>aM t+aL l
end
theorem Nv (t:Ty):1<=bC t:=by cases t;simp[bC]
theorem Cz (t:Nd):1<=bN t:=by cases t;simp[bN]
theorem Nw (t:Vl):1<=aM t:=by cases t;simp[aM]
theorem iG:∀(l:List Ty),l.length<=br l
 | []=>aam _
 | t::l=>by have:=Nv t;have:=iG l;simp only[aaa,br];omega
theorem eL:∀(l:List Nd),l.length<=aQ l
 | []=>aam _
 | t::l=>by have:=Cz t;have:=eL l;simp only[aaa,aQ];omega
theorem iI:∀(l:List Vl),l.length<=aL l
 | []=>aam _
 | t::l=>by have:=Nw t;have:=iI l;simp only[aaa,aL];omega
theorem cF:∀{l:List Ty} {x:Ty},x∈l->bC x<=br l
 | [],x,h=>by simp at h
 | t::l,x,h=>by
  simp only[br];rcases List.mem_cons.1 h with rfl|h
  ·omega
  ·have:=cF h;omega
theorem ee:∀{l:List Nd} {x:Nd},x∈l->bN x<=aQ l
 | [],x,h=>by simp at h
 | t::l,x,h=>by
  simp only[aQ];rcases List.mem_cons.1 h with rfl|h
  ·omega
  ·have:=ee h;omega
theorem ew:∀{l:List Vl} {x:Vl},x∈l->aM x<=aL l
 | [],x,h=>by simp at h
 | t::l,x,h=>by
  simp only[aL];rcases List.mem_cons.1 h with rfl|h
  ·omega
  ·have:=ew h;omega
end Go.cu
set_option linter.unusedVariables false
set_option linter.unusedSimpArgs false
namespace Go.cu
def arity (t:Int):Int :=
 if t=1\/t=2\/t=3\/t=4\/t=5\/t=6\/t=7\/t=8 then 0 else if t=9\/t=10\/t=15 then 1 else if t=11\/t=12\/t=13\/t=14 then 2 else -1
mutual
def sD (p:Int->Bool):Ty->Bool
 | .mk T args=>p T&&nY p args
def nY (p:Int->Bool):List Ty->Bool
 | []=>true
 | t::l=>sD p t&&nY p l
end
def yJ (t:Int):Bool:=t != 8&&t != 10&&t != 13&&t != 14&&t != 15&&decide (arity t>=0)
def rM (t:Int):Bool:=t != 8&&t != 14&&t != 15
def fG (t:Ty):Bool:=sD yJ t
def gh (t:Ty):Bool:=sD rM t
mutual
def C5 (p:Int->Bool):Ty->Bool
 | .mk T args=>if T=14 then true else p T&&G1 p args
def G1 (p:Int->Bool):List Ty->Bool
 | []=>true
 | t::l=>C5 p t&&G1 p l
end
def R5 (t:Int):Bool:=t != 15&&t != 8
def LY (t:Int):Bool:=t != 8
def lE (t:Ty):Bool:=C5 R5 t
def jv (t:Ty):Bool:=C5 LY t
def kg:List Ty->Bool
 | []=>false
 | t::_=>fG t
mutual
def eR:Ty->Int->Int->Bool×Int
 | .mk T args,d,n=>if d>24\/n+1>300\/arity T≠args.length then(false,n+1)else
  match dM args (d+1) (n+1)with
  | (true,m)=>(if T=13\/T=15 then kg args else true,m)
  | (false,m)=>(false,m)
def dM:List Ty->Int->Int->Bool×Int
 | [],_,n=>(true,n)
 | t::l,d,n=>match eR t d n with
  | (true,m)=>dM l d m
  | (false,m)=>(false,m)
end
def bA (t:Ty):Bool:=(eR t 1 0).1
mutual
theorem rJ:∀(t:Ty) (d n:Int),n<=300->n<(eR t d n).2/\(eR t d n).2<=301/\((eR t d n).1=true->(eR t d n).2<=300)
 | .mk T args,d,n,O=>by
  simp only[eR];split
  ·refine⟨j0,j0,cn⟩
  ·rename_i h;have S:=Gj args (d+1) (n+1) bn;split
   ·rename_i m u;rw[u]at S;have:=S.2.2 rfl;refine⟨ri,by simp only at this ⊢;omega,fun _=>this⟩
   ·rename_i m u;rw[u]at S;refine⟨ri,S.2.1,cn⟩
theorem Gj:∀(l:List Ty) (d n:Int),n<=300->n<=(dM l d n).2/\(dM l d n).2<=301/\((dM l d n).1=true->(dM l d n).2<=300)
 | [],d,n,O=>by simp only[dM];exact⟨bn,bn,fun _=>O⟩
 | t::l,d,n,O=>by
  have S:=rJ t d n O;simp only[dM];split
  ·rename_i m u;rw[u]at S;have h1:=S.2.2 rfl;have h2:=S.1;simp only at h1 h2;have Y:=Gj l d m h1;exact⟨bn,Y.2⟩
  ·rename_i m u;rw[u]at S;have h1:=S.1;have h2:=S.2.1;simp only at h1 h2;exact⟨n7,h2,cn⟩
end
mutual
def fE:Nd->Int->Int->Option Ty×Int
 | .mk kind n p s args,d,left=>if left-1<0\/d>24\/kind≠2\/n≠0\/s≠[]\/arity p≠args.length then(none,left-1)else
  match dP args (d+1) (left-1)with
  | (some l,m)=>(some (.mk p l),m)
  | (none,m)=>(none,m)
def dP:List Nd->Int->Int->Option (List Ty)×Int
 | [],_,left=>(some [],left)
 | x::l,d,left=>match fE x d left with
  | (some t,m)=>match dP l d m with
   | (some r,u)=>(some (t::r),u)
   | (none,u)=>(none,u)
  | (none,m)=>(none,m)
end
mutual
theorem Fb:∀(t:Nd) (d n:Int),0<=n->(fE t d n).2<n /\ -1<=(fE t d n).2/\((fE t d n).1≠none->0<=(fE t d n).2)
 | .mk kind G p s args,d,n,O=>by
  simp only[fE];split
  ·refine⟨j0,j0,cn⟩
  ·rename_i h;have S:=Ej args (d+1) (n-1) bn;split
   ·rename_i l m u;rw[u]at S;have:=S.2.2 cn;exact⟨ri,by simp only at this ⊢;omega,fun _=>this⟩
   ·rename_i m u;rw[u]at S;exact⟨ri,S.2.1,cn⟩
theorem Ej:∀(l:List Nd) (d n:Int),0<=n->(dP l d n).2<=n /\ -1<=(dP l d n).2/\((dP l d n).1≠none->0<=(dP l d n).2)
 | [],d,n,O=>by simp only[dP];exact⟨bn,bn,fun _=>O⟩
 | t::l,d,n,O=>by
  have S:=Fb t d n O;simp only[dP];split
  ·rename_i y m u;rw[u]at S;have h1:=S.2.2 cn;have h2:=S.1;simp only at h1 h2;have Y:=Ej l d m h1;split
   ·rename_i r C W;rw[W]at Y;have:=Y.1;simp only at this;exact⟨n7,Y.2.1,fun _=>Y.2.2 cn⟩
   ·rename_i C W;rw[W]at Y;have:=Y.1;simp only at this;exact⟨n7,Y.2.1,cn⟩
  ·rename_i m u;rw[u]at S;have h1:=S.1;have h2:=S.2.1;simp only at h1 h2;exact⟨n7,h2,cn⟩
end
def aZ (n:Nd):Ty×Int:=match (fE n 1 300).1 with
 | some t=>if bA t then(t,0)else(.mk 0 [],1)
 | none=>(.mk 0 [],1)
mutual
def PE:Ty->Nd
 | .mk T args => .mk 2 0 T [] (Jw args)
def Jw:List Ty->List Nd
 | []=>[]
 | t::l=>PE t::Jw l
end
def sE:Nd := .mk 0 0 0 [] []
def lF:Ty := .mk 0 []
def Ze (t:Ty):Nd×Int:=if bA t then(PE t,0)else(sE,1)
mutual
def cP:Ty->Ty->Bool
 | .mk T l,.mk U r=>T==U&&gN l r
def gN:List Ty->List Ty->Bool
 | [],[]=>true
 | t::l,u::r=>cP t u&&gN l r
 | _,_=>false
end
mutual
def oC:Nd->Nd->Bool
 | .mk a b c s l,.mk p M G P Y=>a==p&&b==M&&c==G&&s==P&&jU l Y
def jU:List Nd->List Nd->Bool
 | [],[]=>true
 | t::l,u::r=>oC t u&&jU l r
 | _,_=>false
end
mutual
theorem gm:∀(t u:Ty),cP t u=true↔t=u
 | .mk T l,.mk U r=>by simp[cP,mu l r]
theorem mu:∀(t u:List Ty),gN t u=true↔t=u
 | [],[]=>by simp[gN]
 | [],_::_=>by simp[gN]
 | _::_,[]=>by simp[gN]
 | t::l,u::r=>by simp[gN,gm t u,mu l r]
end
mutual
theorem Nx:∀(t u:Nd),oC t u=true↔t=u
 | .mk a b c s l,.mk p M P Y G=>by simp[oC,vD l G,and_assoc]
theorem vD:∀(t u:List Nd),jU t u=true↔t=u
 | [],[]=>by simp[jU]
 | [],_::_=>by simp[jU]
 | _::_,[]=>by simp[jU]
 | t::l,u::r=>by simp[jU,Nx t u,vD l r]
end
mutual
def Wv:Ty->Bool
 | .mk T args=>decide (arity T>=0)&&TH args
def TH:List Ty->Bool
 | []=>true
 | t::l=>Wv t&&TH l
end
mutual
def Ww (Y:Bool) (q:List Int):Ty->Bool
 | .mk T args=>if q.contains T then false else if T=14/\Y=false then true else TJ Y q args
def TJ (Y:Bool) (q:List Int):List Ty->Bool
 | []=>true
 | t::l=>Ww Y q t&&TJ Y q l
end
def ad1 (t:Ty):Bool:=Wv t&&Ww true [8,10,13,14,15] t
mutual
def xb:Ty->Int->Int->Bool×Int
 | .mk T args,d,left=>if d=0\/left=0\/arity T≠args.length then(false,0)else
  match rG args (d-1) (left-1)with
  | (true,m)=>(if T=13\/T=15 then kg args else true,m)
  | (false,_)=>(false,0)
def rG:List Ty->Int->Int->Bool×Int
 | [],_,left=>(true,left)
 | t::l,d,left=>match xb t d left with
  | (true,m)=>rG l d m
  | (false,_)=>(false,0)
end
mutual
theorem KV:∀(t:Ty) (d n:Int),d<=25->n<=300->(xb t (25-d) (300-n)).1=(eR t d n).1/\((eR t d n).1=true->(xb t (25-d) (300-n)).2=300-(eR t d n).2)
 | .mk T args,d,n,H,O=>by
  simp only[eR,xb];by_cases h:d>24\/n+1>300\/arity T≠args.length
  ·rw[if_pos h,if_pos bn];simp
  ·rw[if_neg h,if_neg bn];have S:=Gk args (d+1) (n+1) bn bn;rw[show 25-(d+1)=25-d-1 from by omega,show 300-(n+1)=300-n-1 from by omega]at S;rcases D:dM args (d+1) (n+1)with ⟨b,m⟩
   rcases I:rG args (25-d-1) (300-n-1)with ⟨M,u⟩
   rw[D,I]at S;obtain⟨A,E⟩:=S;simp only at A E;subst A;cases M
   ·simp
   ·simp only;exact⟨trivial,fun _=>E rfl⟩
theorem Gk:∀(l:List Ty) (d n:Int),d<=25->n<=300->(rG l (25-d) (300-n)).1=(dM l d n).1/\((dM l d n).1=true->(rG l (25-d) (300-n)).2=300-(dM l d n).2)
 | [],d,n,H,O=>by simp[dM,rG]
 | t::l,d,n,H,O=>by
  have S:=KV t d n H O;have Q:=rJ t d n O;simp only[dM,rG];rcases D:eR t d n with ⟨b,m⟩
  rcases I:xb t (25-d) (300-n)with ⟨M,u⟩
  rw[D,I]at S;rw[D]at Q;obtain⟨A,E⟩:=S;simp only at A E Q;subst A;cases M
  ·simp
  ·simp only;rw[E rfl];exact Gk l d m H (Q.2.2 rfl)
end
theorem Fg (t:Ty):(xb t 24 300).1=bA t:=by
 have:=(KV t 1 0 bn bn).1;simpa[bA]using this
mutual
def TL:Nd->Int->Int->Ty×Int
 | .mk kind n p s args,d,left=>if kind≠2\/n≠0\/s≠[]\/d=0\/left-1<0 then(lF,left-1)else
  match TM args (d-1) (left-1)with
  | (l,m)=>(.mk p l,m)
def TM:List Nd->Int->Int->List Ty×Int
 | [],_,left=>([],left)
 | x::l,d,left=>match TL x d left with
  | (t,m)=>match TM l d m with
   | (r,u)=>(t::r,u)
end
mutual
def gq:Ty->Bool
 | .mk T args=>decide (arity T≠args.length)||mz args
def mz:List Ty->Bool
 | []=>false
 | t::l=>gq t||mz l
end
mutual
theorem Cy:∀(t:Ty) (d n:Int),gq t=true->(xb t d n).1=false
 | .mk T args,d,n,h=>by
  simp only[xb];split
  ·rfl
  ·rename_i E;simp only[gq,aay,decide_eq_true_eq]at h;have h2:mz args=true:=by
    rcases h with h|h
    ·omega
    ·exact h
   have S:=Gl args (d-1) (n-1) h2;rcases I:rG args (d-1) (n-1)with ⟨b,m⟩
   rw[I]at S;simp only at S;subst S;rfl
theorem Gl:∀(l:List Ty) (d n:Int),mz l=true->(rG l d n).1=false
 | [],d,n,h=>by simp[mz]at h
 | t::l,d,n,h=>by
  simp only[mz,aay]at h;simp only[rG];rcases I:xb t d n with ⟨b,m⟩
  cases b
  ·rfl
  ·have h2:mz l=true:=by
    rcases h with h|h
    ·have:=Cy t d n h;rw[I]at this;simp at this
    ·exact h
   exact Gl l d m h2
end
def ac3 (n:Nd):Ty×Int:=if(xb (TL n 24 300).1 24 300).1 then((TL n 24 300).1,0)else(.mk 0 [],1)
end Go.cu
namespace Go.cu
abbrev bM:Int:=1152921504606846976
def qN (p:Int):Bool:=decide ((1<=p/\p<=15)\/(20<=p/\p<=28)\/(40<=p/\p<=95))
def fV (kind n p:Int) (s:List UInt8) (k:Nat) (d:Int):Int :=
 if d>24 then 4
 else if kind<0\/kind>3\/kind=2/\qN p=false then 3
 else if kind≠0/\n≠0\/kind≠2/\p≠0\/kind≠1/\s≠[]\/kind<2/\0<k then 1
 else if n < -bM\/n>bM then 2
 else if 200<s.length then 4 else 0
mutual
def ef:Nd->Int->Int
 | .mk kind n p s args,d=>if fV kind n p s args.length d=0 then cU args (d+1)else fV kind n p s args.length d
def cU:List Nd->Int->Int
 | [],_=>0
 | x::l,d=>if ef x d=0 then cU l d else ef x d
end
mutual
def many:Nd->Nat
 | .mk _ _ _ _ args=>cr args+1
def cr:List Nd->Nat
 | []=>0
 | x::l=>many x+cr l
end
def dj (n:Nd):Int:=if ef n 1=0 then(if 300<many n then 4 else 0)else ef n 1
def AD (c m:Nat):List UInt8 :=
 if m=0 then [byteOf (c:Nat)]else byteOf ((c+128:Nat):Int)::AD (m%128) (m/128)
termination_by m
decreasing_by omega
def jc (n:Int):List UInt8:=AD ((if n<0 then 64 else 0)+n.natAbs%64) (n.natAbs/64)
mutual
def dU:Nd->List UInt8
 | .mk kind n p s args =>
  if kind=0 then byteOf kind::jc n
  else if kind=1 then byteOf kind::(jc (s.length:Int)++s)
  else if kind=2 then byteOf kind::byteOf p::(jc (args.length:Int)++eU args)
  else byteOf kind::(jc (args.length:Int)++eU args)
def eU:List Nd->List UInt8
 | []=>[]
 | x::l=>dU x++eU l
end
def Ht (n:Nd):List UInt8×Int:=if dj n=0 then(dU n,0)else([],dj n)
def qm:List UInt8->Nat->Nat->Option (Nat×List UInt8)
 | [],_,_=>none
 | b::s,n,sh=>if b.toNat=0\/sh>55 then none
  else if b.toNat>=128 then qm s (n+b.toNat%128*2^sh) (sh+7)else some (n+b.toNat%128*2^sh,s)
def kX (b:UInt8) (s:List UInt8):Option (Nat×List UInt8):=if b.toNat>=128 then qm s (b.toNat%64) 6 else some (b.toNat%64,s)
def eW:List UInt8->Option (Int×List UInt8)
 | []=>none
 | b::s=>match kX b s with
  | none=>none
  | some (n,r)=>if(b.toNat/64%2=1/\n=0)\/n>1152921504606846976 then none else some (if b.toNat/64%2=1 then -(n:Int)else n,r)
theorem iO (c:Nat) (h:c<256):(byteOf (c:Int)).toNat=c:=by
 have:=nr (c:Int);rw[show IntKind.u8.wrap (c:Int)=c from by simp[IntKind.wrap,IntKind.bits,IntKind.signed];omega]at this;omega
theorem kZ (b:UInt8):byteOf ((b.toNat:Nat):Int)=b:=by
 apply UInt8.toNat_inj.1;rw[iO _ b.toNat_lt]
theorem mm (c:Nat):AD c 0=[byteOf (c:Nat)]:=by rw[AD];simp
theorem nG (c m:Nat) (h:m≠0):AD c m=byteOf ((c+128:Nat):Int)::AD (m%128) (m/128):=by rw[AD,if_neg h]
theorem QA:∀(m c n H:Nat) (r:List UInt8),c<128->c+128*m≠0->H%7=6->(c+128*m)*2^H<=2^60->qm (AD c m++r) n H=some (n+(c+128*m)*2^H,r):=by
 intro m
 induction m using Nat.strongRecOn with
 | ind m S =>
  intro c n H r E B C p;have V:H<=60:=by
   have h1:2^H<=2^60:=Nat.le_trans (Nat.le_mul_of_pos_left _ bn) p;exact(Nat.pow_le_pow_iff_right bn).1 h1
  by_cases u:m=0
  ·subst u;rw[mm];simp only[List.cons_append,List.nil_append,qm];rw[iO _ bn,if_neg bn,if_neg bn,Nat.mod_eq_of_lt E];simp
  ·rw[nG _ _ u];simp only[List.cons_append,qm];rw[iO _ bn,if_neg bn,if_pos bn];have e:(c+128)%128=c:=by omega
   have Y:m%128+128*(m/128)=m:=by omega
   have W:2^(H+7)=128*2^H:=by rw[Nat.pow_add];omega
   rw[e,S (m/128) bn (m%128) _ _ r bn bn bn (by
    rw[Y,W];refine Nat.le_trans ?_ p;rw[<- Nat.mul_assoc,Nat.mul_comm m 128]
    exact Nat.mul_le_mul_right _ bn)]
   rw[Y,W];congr 2;rw[Nat.add_mul,Nat.add_assoc,<- Nat.mul_assoc,Nat.mul_comm m 128]
theorem Ek:∀(s:List UInt8) (n H v:Nat) (r:List UInt8),qm s n H=some (v,r)->∃c m,c<128/\c+128*m≠0/\s=AD c m++r/\v=n+(c+128*m)*2^H
 | [],n,H,v,r,h=>by simp[qm]at h
 | b::s,n,H,v,r,h=>by
  have p:=b.toNat_lt;simp only[qm]at h;split at h
  ·simp at h
  ·rename_i B;split at h
   ·rename_i h1;obtain⟨c,m,E,Y,W,T⟩:=Ek s _ _ v r h;have V:2^(H+7)=128*2^H:=by rw[Nat.pow_add];omega
    refine⟨b.toNat%128,c+128*m,bn,bn,?_,?_⟩
    ·rw[nG _ _ Y,show(c+128*m)%128=c from by omega,show(c+128*m)/128=m from by omega,show b.toNat%128+128=b.toNat from by omega,kZ,W];rfl
    ·grind
   ·rename_i h1;simp at h;refine⟨b.toNat,0,bn,bn,?_,?_⟩
    ·rw[mm,kZ,h.2];rfl
    ·grind
theorem qR (n:Int) (r:List UInt8) (h1 : -bM<=n) (h2:n<=bM):eW (jc n++r)=some (n,r):=by
 have H:n.natAbs<=1152921504606846976:=by unfold bM at h1 h2;omega
 unfold jc;generalize Y:(if n<0 then 64 else 0:Nat)=sg;have W:(sg=64/\n<0)\/(sg=0/\0<=n):=by split at Y<;>omega
 generalize O:n.natAbs=a at H ⊢;by_cases u:a/64=0
 ·rw[u,mm];simp only[List.cons_append,List.nil_append,eW,kX];rw[iO _ bn,if_neg bn];simp only;rw[if_neg bn];simp only[Option.some.injEq,Prod.mk.injEq,and_true];split<;>omega
 ·rw[nG _ _ u];simp only[List.cons_append,eW,kX]
  rw[iO _ bn,if_pos bn,QA _ _ _ _ _ bn bn bn (by
   rw[show a/64%128+128*(a/64/128)=a/64 from by omega];omega)]
  simp only;rw[show a/64%128+128*(a/64/128)=a/64 from by omega];have e:(sg+a%64+128)%64+a/64*2^6=a:=by omega
  rw[e,if_neg bn];simp only[Option.some.injEq,Prod.mk.injEq,and_true];split<;>omega
theorem mW {s:List UInt8} {n:Int} {r:List UInt8} (h:eW s=some (n,r)):s=jc n++r /\ -bM<=n/\n<=bM:=by
 cases s with
 | nil=>simp[eW]at h
 | cons b s =>
  have p:=b.toNat_lt;simp only[eW]at h;split at h
  ·simp at h
  ·rename_i v O T;split at h
   ·simp at h
   ·rename_i N;simp only[Option.some.injEq,Prod.mk.injEq]at h;obtain⟨h1,rfl⟩:=h;unfold bM;unfold kX at T;split at T
    ·rename_i E;obtain⟨c,m,S,G,Y,W⟩:=Ek _ _ _ _ _ T;have H:n.natAbs=v:=by split at h1<;>omega
     refine⟨?_,Ud,Ud⟩;unfold jc;rw[H];have A:v/64=c+128*m:=by omega
     have U:v%64=b.toNat%64:=by omega
     rw[A,U,nG _ _ G,show(c+128*m)%128=c from by omega,show(c+128*m)/128=m from by omega,Y];have B:(if n<0 then 64 else 0:Nat)+b.toNat%64+128=b.toNat:=by split at h1<;>split<;>omega
     rw[B,kZ];rfl
    ·rename_i E;simp at T;obtain⟨T,rfl⟩:=T;have H:n.natAbs=v:=by split at h1<;>omega
     refine⟨?_,Ud,Ud⟩;unfold jc;rw[H,show v/64=0 from by omega,mm,show v%64=b.toNat%64 from by omega];have B:(if n<0 then 64 else 0:Nat)+b.toNat%64=b.toNat:=by split at h1<;>split<;>omega
     rw[B,kZ];rfl
theorem Ir {s:List UInt8} {n:Int} {r:List UInt8} (t:List UInt8) (h:eW s=some (n,r)):eW (s++t)=some (n,r++t):=by
 obtain⟨h1,h2,V⟩:=mW h;rw[h1,List.append_assoc];exact qR n (r++t) h2 V
inductive Rd (α:Type) where
 | ok (a:α) (s:List UInt8) (left:Nat)
 | no (e:Int)
def mQ (f:List UInt8->Nat->Rd Nd):Nat->List UInt8->Nat->Rd (List Nd)
 | 0,s,left => .ok [] s left
 | k+1,s,left=>match f s left with
  | .no e => .no e
  | .ok x P U=>match mQ f k P U with
   | .no e => .no e
   | .ok l E Y => .ok (x::l) E Y
def oH (f:List UInt8->Nat->Rd Nd) (kind p:Int) (s:List UInt8) (left:Nat):Rd Nd :=
 match eW s with
 | none => .no 1
 | some (k,P)=>if k<0 then .no 1 else match mQ f k.toNat P left with
  | .no e => .no e
  | .ok l E Y => .ok (.mk kind 0 p [] l) E Y
def rE (f:List UInt8->Nat->Rd Nd) (c:Nat) (s:List UInt8) (left:Nat):Rd Nd :=
 if c=0 then(match eW s with
  | none => .no 1
  | some (n,P) => .ok (.mk 0 n 0 [] []) P left)
 else if c=1 then(match eW s with
  | none => .no 1
  | some (n,P)=>if n<0\/n>200\/n>P.length then .no 1 else .ok (.mk 1 0 0 (P.take n.toNat) []) (P.drop n.toNat) left)
 else if c=2 then(match s with
  | [] => .no 1
  | p::P=>if qN p.toNat=true then oH f 2 p.toNat P left else .no 1)
 else if c=3 then oH f 3 0 s left
 else .no 1
def fj:Nat->List UInt8->Nat->Rd Nd
 | 0,_,_ => .no 4
 | g+1,s,left=>if left=0 then .no 4 else match s with
  | [] => .no 1
  | c::s'=>rE (fj g) c.toNat s' (left-1)
def eT (s:List UInt8):Nd×Int:=match fj 24 s 300 with
 | .no e=>(sE,e)
 | .ok n r _=>if r=[]then(n,0)else(sE,1)
theorem UA (n:Int):jc n≠[]:=by
 unfold jc;rw[AD];split<;>simp
theorem Gm:∀l:List Nd,l.length<=cr l
 | []=>aam _
 | .mk _ _ _ _ _::l=>by have:=Gm l;simp only[aaa,cr,many];omega
theorem hM {kind n p:Int} {s:List UInt8} {args:List Nd} {d:Int} (h:ef (.mk kind n p s args) d=0):fV kind n p s args.length d=0/\cU args (d+1)=0:=by
 simp only[ef]at h;by_cases Y:fV kind n p s args.length d=0
 ·omega
 ·omega
theorem l8 {kind n p:Int} {s:List UInt8} {k:Nat} {d:Int} (h:fV kind n p s k d=0) :
  d<=24/\(kind=0\/kind=1\/kind=2/\qN p=true\/kind=3)/\(kind≠0->n=0)/\(kind≠2->p=0)/\(kind≠1->s=[])/\(kind<2->k=0) /\ -bM<=n/\n<=bM/\s.length<=200:=by
 unfold fV at h;split at h
 ·omega
 ·split at h
  ·omega
  ·grind
theorem wH {kind n p:Int} {s:List UInt8} {k:Nat} {d:Int} (B:d<=24) (h1:kind=0\/kind=1\/kind=2/\qN p=true\/kind=3) (h2:kind≠0->n=0) (V:kind≠2->p=0) (D:kind≠1->s=[]) (q:kind<2->k=0) (Y : -bM<=n) (u:n<=bM) (W:s.length<=200):fV kind n p s k d=0:=by
 unfold fV;rw[if_neg bn,if_neg,if_neg,if_neg bn,if_neg bn]
 ·simp_all
 ·grind
theorem KW {p:Int} (h:qN p=true):1<=p/\p<=95:=by
 unfold qN at h;have:=of_decide_eq_true h;omega
theorem zA:∀(g:Nat) (n:Nd) (r:List UInt8) (left:Nat),left<=300->ef n (25-g)=0->many n<=left->fj g (dU n++r) left = .ok n r (left-many n)
 | 0,.mk kind n p s args,r,left,hl,h,u=>by
  have:=(l8 (hM h).1).1;omega
 | g+1,.mk kind n p s args,r,left,hl,h,u=>by
  obtain⟨h1,h2⟩:=hM h;obtain⟨hd,D,O,T,V,C,J,U,oI⟩:=l8 h1;simp only[many]at u ⊢;have hf:∀(n:Nd) (r:List UInt8) (Y:Nat),Y<=300->ef n (25-g)=0->many n<=Y->fj g (dU n++r) Y = .ok n r (Y-many n):=fun n r Y=>zA g n r Y;have K:∀(l:List Nd) (r:List UInt8) (Y:Nat),Y<=300->cU l (25-g)=0->cr l<=Y->mQ (fj g) l.length (eU l++r) Y = .ok l r (Y-cr l):=by
   intro l
   induction l with
   | nil=>intro r Y _ _ _;simp[mQ,eU,cr]
   | cons x l I =>
    intro r Y S h u;simp only[cU]at h;simp only[cr]at u;have N:ef x (25-g)=0:=by by_cases P:ef x (25-g)=0;exact P;rw[if_neg P]at h;exact h
    rw[if_pos N]at h;simp only[aaa,mQ,eU,List.append_assoc,cr];rw[hf x _ Y S N bn];simp only;rw[I r _ bn h bn];simp only[Nat.sub_sub]
  have W:∀(kind p:Int),cU args (25-g)=0->oH (fj g) kind p (jc (args.length:Int)++eU args++r) (left-1) = .ok (.mk kind 0 p [] args) r (left-1-cr args):=by
   intro kind p G;have:=Gm args;unfold oH;rw[List.append_assoc,qR _ _ ga ga];simp only;rw[if_neg bn,show((args.length:Nat):Int).toNat=args.length from by omega,K args r (left-1) bn G bn]
  have H:cU args (25-g)=0:=by rw[<- h2];congr 1;omega
  have e:left-(cr args+1)=left-1-cr args:=by omega
  rw[e];simp only[fj];rw[if_neg bn];have E:(byteOf 0).toNat=0:=rfl;have B:(byteOf 1).toNat=1:=rfl;have A:(byteOf 2).toNat=2:=rfl;have b3:(byteOf 3).toNat=3:=rfl;rcases D with rfl|rfl|⟨rfl,M⟩|rfl
  ·have:=C bn;rw[List.length_eq_zero_iff]at this;subst this;obtain rfl:=T bn;obtain rfl:=V bn;simp only[dU,if_true,List.cons_append,rE,E];rw[qR _ _ J U];simp[cr]
  ·have:=C bn;rw[List.length_eq_zero_iff]at this;subst this;obtain rfl:=T bn;obtain rfl:=O bn;simp only[dU,show ¬((1:Int)=0)from by omega,if_false,if_true,List.cons_append,rE,B,show ¬((1:Nat)=0)from by omega];rw[List.append_assoc,qR _ _ ga ga];simp only;rw[if_neg Xc];simp[cr]
  ·obtain rfl:=O bn;obtain rfl:=V bn;have Kr:=KW M;have Q:(byteOf p).toNat=p:=by
    obtain⟨q,rfl⟩:∃q:Nat,p=q:=⟨p.toNat,bn⟩
    rw[iO _ bn]
   simp only[dU,show ¬((2:Int)=0)from by omega,show ¬((2:Int)=1)from by omega,if_false,if_true,List.cons_append,rE,A,show ¬((2:Nat)=0)from by omega,show ¬((2:Nat)=1)from by omega];rw[Q,if_pos M,W 2 p H]
  ·obtain rfl:=O bn;obtain rfl:=V bn;obtain rfl:=T bn;simp only[dU,show ¬((3:Int)=0)from by omega,show ¬((3:Int)=1)from by omega,show ¬((3:Int)=2)from by omega,if_false,if_true,List.cons_append,rE,b3,show ¬((3:Nat)=0)from by omega,show ¬((3:Nat)=1)from by omega,show ¬((3:Nat)=2)from by omega];rw[W 3 0 H]
theorem wI:∀(g:Nat) (s:List UInt8) (left:Nat) (n:Nd) (r:List UInt8) (U:Nat),g<=24->fj g s left = .ok n r U->s=dU n++r/\ef n (25-g)=0/\left=U+many n
 | 0,s,left,n,r,U,_,h=>by simp[fj]at h
 | g+1,s,left,n,r,U,hg,h=>by
  have D:=fun s left n r U=>wI g s left n r U bn;have K:∀(k:Nat) (s:List UInt8) (left:Nat) (l:List Nd) (r:List UInt8) (U:Nat),mQ (fj g) k s left = .ok l r U->s=eU l++r/\cU l (25-g)=0/\left=U+cr l/\l.length=k:=by
   intro k
   induction k with
   | zero=>intro s left l r U h;simp[mQ]at h;obtain⟨rfl,rfl,rfl⟩:=h;simp[eU,cU,cr]
   | succ k Q =>
    intro s left l r U h;simp only[mQ]at h;split at h
    ·simp at h
    ·rename_i x s1 l1 B;split at h
     ·simp at h
     ·rename_i l2 A u C;simp at h;obtain⟨rfl,rfl,rfl⟩:=h;obtain⟨e1,e2,e3⟩:=D _ _ _ _ _ B;obtain⟨T,P,I,q⟩:=Q _ _ _ _ _ C;refine⟨?_,?_,?_,?_⟩
      ·rw[e1,T];simp[eU]
      ·simp[cU,e2,P]
      ·simp only[cr];omega
      ·simp[q]
  have Y:∀(kind p:Int) (s:List UInt8) (left:Nat) (n:Nd) (r:List UInt8) (U:Nat),oH (fj g) kind p s left = .ok n r U->∃l,n = .mk kind 0 p [] l/\s=jc (l.length:Int)++eU l++r/\cU l (25-g)=0/\left=U+cr l:=by
   intro kind p s left n r U h;unfold oH at h;split at h
   ·simp at h
   ·rename_i k O hk;split at h
    ·simp at h
    ·rename_i wQ;split at h
     ·simp at h
     ·rename_i l A u C;simp at h;obtain⟨rfl,rfl,rfl⟩:=h;obtain⟨T,P,I,q⟩:=K _ _ _ _ _ _ C;obtain⟨N,_,_⟩:=mW hk;refine⟨l,rfl,?_,P,I⟩;rw[N,T,q,List.append_assoc,show((k.toNat:Nat):Int)=k from by omega]
  simp only[fj]at h;split at h
  ·simp at h
  ·rename_i C;cases s with
   | nil=>simp at h
   | cons c s =>
    simp only at h;have H:(25-((g+1:Nat):Int))<=24:=by omega
    have S:(25-((g+1:Nat):Int))+1=25-(g:Int):=by omega
    have W:=kZ c;unfold rE at h;split at h
    ·rename_i E;split at h
     ·simp at h
     ·rename_i v O M;simp at h;obtain⟨rfl,rfl,rfl⟩:=h;obtain⟨N,J,G⟩:=mW M;refine⟨?_,?_,by simp only[many,cr];omega⟩
      ·simp only[dU,if_true];rw[N,<- W,E];rfl
      ·simp only[ef];rw[if_pos (wH H (.inl rfl) cn cn cn cn J G cn)];rfl
    ·rename_i hc0;split at h
     ·rename_i E;split at h
      ·simp at h
      ·rename_i v O M;split at h
       ·simp at h
       ·rename_i Iz;simp at h;obtain⟨rfl,rfl,rfl⟩:=h;obtain⟨N,J,G⟩:=mW M;have V:(O.take v.toNat).length=v.toNat:=by rw[List.length_take];omega
        refine⟨?_,?_,by simp only[many,cr];omega⟩
        ·simp only[dU,show ¬((1:Int)=0)from by omega,if_false,if_true];rw[V,show((v.toNat:Nat):Int)=v from by omega,N,<- W,E];simp[List.append_assoc]
        ·simp only[ef];rw[if_pos (wH H (.inr (.inl rfl)) cn cn cn cn ga ga (by rw[V];omega))];rfl
     ·rename_i zY;split at h
      ·rename_i E;cases s with
       | nil=>simp at h
       | cons p s =>
        simp only at h;split at h
        ·rename_i hp;obtain⟨l,rfl,T,P,I⟩:=Y _ _ _ _ _ _ _ h;have Wx:=kZ p;refine⟨?_,?_,by simp only[many];omega⟩
         ·simp only[dU,show ¬((2:Int)=0)from by omega,show ¬((2:Int)=1)from by omega,if_false,if_true];rw[T,Wx,<- W,E];rfl
         ·simp only[ef];rw[if_pos (wH H (.inr (.inr (.inl ⟨rfl,hp⟩))) cn cn cn cn ga ga cn),S];exact P
        ·simp at h
      ·rename_i vW;split at h
       ·rename_i E;obtain⟨l,rfl,T,P,I⟩:=Y _ _ _ _ _ _ _ h;refine⟨?_,?_,by simp only[many];omega⟩
        ·simp only[dU,show ¬((3:Int)=0)from by omega,show ¬((3:Int)=1)from by omega,show ¬((3:Int)=2)from by omega,if_false];rw[T,<- W,E];rfl
        ·simp only[ef];rw[if_pos (wH H (.inr (.inr (.inr rfl))) cn cn cn cn ga ga cn),S];exact P
       ·simp at h
theorem KX {g:Nat} {s:List UInt8} (t:List UInt8) {left:Nat} {n:Nd} {r:List UInt8} {U:Nat} (Q:g<=24) (C:left<=300) (h:fj g s left = .ok n r U):fj g (s++t) left = .ok n (r++t) U:=by
 obtain⟨h1,h2,V⟩:=wI g s left n r U Q h;rw[h1,List.append_assoc,zA g n (r++t) left C h2 bn,show left-many n=U from by omega]
theorem Gn:∀(g:Nat) (s:List UInt8) (left:Nat) (e:Int),g<=24->left<=300->fj g s left = .no e->e=1\/e=4/\∀t,fj g (s++t) left = .no 4
 | 0,s,left,e,_,_,h=>by simp[fj]at h;right;exact⟨h.symm,fun t=>rfl⟩
 | g+1,s,left,e,hg,ad3,h=>by
  have K:∀(k:Nat) (s:List UInt8) (left:Nat) (e:Int),left<=300->mQ (fj g) k s left = .no e->e=1\/e=4/\∀t,mQ (fj g) k (s++t) left = .no 4:=by
   intro k
   induction k with
   | zero=>intro s left e _ h;simp[mQ]at h
   | succ k T =>
    intro s left e C h;simp only[mQ]at h;split at h
    ·rename_i A W;simp at h;subst h;refine(Gn g s left _ bn C W).imp id fun⟨h1,h2⟩=>⟨h1,fun t=>?_⟩
     simp only[mQ,h2 t]
    ·rename_i x q E O;have N:=(wI g _ _ _ _ _ bn O).2.2;split at h
     ·rename_i A W;simp at h;subst h;refine(T q E _ bn W).imp id fun⟨h1,h2⟩=>⟨h1,fun t=>?_⟩
      simp only[mQ,KX t bn C O,h2 t]
     ·simp at h
  have Y:∀(kind p:Int) (s:List UInt8) (left:Nat) (e:Int),left<=300->oH (fj g) kind p s left = .no e->e=1\/e=4/\∀t,oH (fj g) kind p (s++t) left = .no 4:=by
   intro kind p s left e C h;unfold oH at h;split at h
   ·simp_all
   ·rename_i k J D;split at h
    ·simp_all
    ·rename_i M;split at h
     ·rename_i A W;simp at h;subst h;refine(K _ _ _ _ C W).imp id fun⟨h1,h2⟩=>⟨h1,fun t=>?_⟩
      unfold oH;rw[Ir t D];simp only;rw[if_neg M,h2 t]
     ·simp at h
  simp only[fj]at h;split at h
  ·rename_i U;simp at h;subst h;right;exact⟨rfl,fun t=>by simp only[fj,if_pos U]⟩
  ·rename_i U;cases s with
   | nil=>simp at h;exact .inl h.symm
   | cons c s =>
    simp only at h;unfold rE at h;split at h
    ·grind
    ·rename_i V;split at h
     ·grind
     ·rename_i S;split at h
      ·rename_i G;cases s with
       | nil=>simp at h;exact .inl h.symm
       | cons p s =>
        simp only at h;split at h
        ·rename_i Q;refine(Y _ _ _ _ _ bn h).imp id fun⟨h1,h2⟩=>⟨h1,fun t=>?_⟩
         simp only[fj,if_neg U,List.cons_append,rE,if_neg V,if_neg S,if_pos G,if_pos Q,h2 t]
        ·simp_all
      ·rename_i G;split at h
       ·rename_i P;refine(Y _ _ _ _ _ bn h).imp id fun⟨h1,h2⟩=>⟨h1,fun t=>?_⟩
        simp only[fj,if_neg U,List.cons_append,rE,if_neg V,if_neg S,if_neg G,if_pos P,h2 t]
       ·simp_all
theorem gr {n:Nd}:dj n=0↔ef n 1=0/\many n<=300:=by
 unfold dj;split
 ·omega
 ·rename_i h;simp[h]
theorem GM {s:List UInt8} (h:(eT s).2=0):dj (eT s).1=0/\dU (eT s).1=s:=by
 unfold eT at h ⊢;split at h
 ·rename_i e P;simp at h;subst h;have:=Gn 24 s 300 0 bn bn P;omega
 ·rename_i n r l O;obtain⟨h1,h2,V⟩:=wI 24 _ _ _ _ _ bn O;split at h
  ·rename_i I;simp only[if_pos I];refine⟨gr.2 ⟨h2,bn⟩,by rw[h1,I,List.append_nil]⟩
  ·simp at h
theorem I6 {s:List UInt8} (h:(eT s).2≠0):(eT s).1=sE:=by
 unfold eT at h ⊢;split at h
 ·rfl
 ·grind
end Go.cu
