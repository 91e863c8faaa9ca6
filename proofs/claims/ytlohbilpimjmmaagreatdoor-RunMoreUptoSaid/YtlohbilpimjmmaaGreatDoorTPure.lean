/- The data of the chain, as plain inductive types, and how they lie in memory. Package kind and its reference, as plain functions, and that they answer alike. Package tree and its reference, as plain functions, and their laws. -/
import Derived.Test.YtlohbilpimjmmaaGreatDoorLibD
import Derived.IntWalk
namespace Go.cq
theorem gW {n:Int} (h1 : -9223372036854775808<=n) (h2:n<=9223372036854775807):IntKind.i64.wrap n=n:=IntWalk.i64_in n ⟨h1,h2⟩
inductive Ty where
 | mk (T:Int) (args:List Ty)
 deriving Inhabited
inductive Nd where
 | mk (kind n p:Int) (s:List UInt8) (args:List Nd)
 deriving Inhabited
inductive Vl where
 | mk (k n a:Int) (s:List UInt8) (args:List Vl) (types:List Ty) (code:List Nd)
 deriving Inhabited
abbrev aF (n:Int):CV := .int .i64 n
mutual
def eB:Ty->CV
 | .mk T args => .agg [.int .i64 T,.sl 2 (aq args)]
def aq:List Ty->List CV
 | []=>[]
 | t::l=>eB t::aq l
end
mutual
def aX:Nd->CV
 | .mk kind n p s args => .agg [.int .i64 kind,.int .i64 n,.int .i64 p,.str s,.sl 5 (aI args)]
def aI:List Nd->List CV
 | []=>[]
 | t::l=>aX t::aI l
end
mutual
def bM:Vl->CV
 | .mk k n a s args B H => .agg [.int .i64 k,.int .i64 n,.int .i64 a,.str s,.sl 7 (aa args),.sl 2 (aq B),.sl 5 (aI H)]
def aa:List Vl->List CV
 | []=>[]
 | t::l=>bM t::aa l
end
theorem xJ:∀(l:List Ty) (i:Nat),(aq l)[i]?=l[i]?.map eB
 | [],i=>by simp[aq]
 | t::l,0=>by simp[aq]
 | t::l,i+1=>by simp[aq,xJ l i]
theorem aQ:∀(l:List Ty),(aq l).length=l.length
 | []=>rfl
 | t::l=>by simp[aq,aQ l]
theorem Cv:∀(l:List Nd) (i:Nat),(aI l)[i]?=l[i]?.map aX
 | [],i=>by simp[aI]
 | t::l,0=>by simp[aI]
 | t::l,i+1=>by simp[aI,Cv l i]
theorem br:∀(l:List Nd),(aI l).length=l.length
 | []=>rfl
 | t::l=>by simp[aI,br l]
theorem jx:∀(l:List Vl) (i:Nat),(aa l)[i]?=l[i]?.map bM
 | [],i=>by simp[aa]
 | t::l,0=>by simp[aa]
 | t::l,i+1=>by simp[aa,jx l i]
theorem az:∀(l:List Vl),(aa l).length=l.length
 | []=>rfl
 | t::l=>by simp[aa,az l]
abbrev OB (n:Int):Prop := -9223372036854775808<=n/\n<=9223372036854775807
mutual
def Y9:Ty->Prop
 | .mk T args=>OB T/\A7 args
def A7:List Ty->Prop
 | []=>True
 | t::l=>Y9 t/\A7 l
end
mutual
def RS:Nd->Prop
 | .mk kind n p _ args=>OB kind/\OB n/\OB p/\Oc args
def Oc:List Nd->Prop
 | []=>True
 | t::l=>RS t/\Oc l
end
mutual
def Zb:Vl->Prop
 | .mk k n a _ args B H=>OB k/\OB n/\OB a/\CT args/\A7 B/\Oc H
def CT:List Vl->Prop
 | []=>True
 | t::l=>Zb t/\CT l
end
mutual
def bA:Ty->Nat
 | .mk _ args=>aY args+1
def aY:List Ty->Nat
 | []=>0
 | t::l=>bA t+aY l
end
mutual
def b8:Nd->Nat
 | .mk _ _ _ s args=>s.length+aU args+1
def aU:List Nd->Nat
 | []=>0
 | t::l=>b8 t+aU l
end
mutual
def aM:Vl->Nat
 | .mk _ _ _ s args B H=>s.length+aJ args+aY B+aU H+1
def aJ:List Vl->Nat
 | []=>0
 | t::l=>aM t+aJ l
end
theorem NM (t:Ty):1<=bA t:=by cases t;simp[bA]
theorem CF (t:Nd):1<=b8 t:=by cases t;simp[b8]
theorem NN (t:Vl):1<=aM t:=by cases t;simp[aM]
theorem gn:∀(l:List Ty),l.length<=aY l
 | []=>aak _
 | t::l=>by have:=NM t;have:=gn l;simp only[aac,aY];omega
theorem fP:∀(l:List Nd),l.length<=aU l
 | []=>aak _
 | t::l=>by have:=CF t;have:=fP l;simp only[aac,aU];omega
theorem gM:∀(l:List Vl),l.length<=aJ l
 | []=>aak _
 | t::l=>by have:=NN t;have:=gM l;simp only[aac,aJ];omega
theorem cz:∀{l:List Ty} {x:Ty},x∈l->bA x<=aY l
 | [],x,h=>by simp at h
 | t::l,x,h=>by
  simp only[aY];rcases List.mem_cons.1 h with rfl|h
  ·omega
  ·have:=cz h;omega
theorem er:∀{l:List Nd} {x:Nd},x∈l->b8 x<=aU l
 | [],x,h=>by simp at h
 | t::l,x,h=>by
  simp only[aU];rcases List.mem_cons.1 h with rfl|h
  ·omega
  ·have:=er h;omega
theorem dO:∀{l:List Vl} {x:Vl},x∈l->aM x<=aJ l
 | [],x,h=>by simp at h
 | t::l,x,h=>by
  simp only[aJ];rcases List.mem_cons.1 h with rfl|h
  ·omega
  ·have:=dO h;omega
end Go.cq
set_option linter.unusedVariables false
set_option linter.unusedSimpArgs false
namespace Go.cq
def arity (t:Int):Int :=
 if t=1\/t=2\/t=3\/t=4\/t=5\/t=6\/t=7\/t=8 then 0 else if t=9\/t=10\/t=15 then 1 else if t=11\/t=12\/t=13\/t=14 then 2 else -1
mutual
def sL (p:Int->Bool):Ty->Bool
 | .mk T args=>p T&&oa p args
def oa (p:Int->Bool):List Ty->Bool
 | []=>true
 | t::l=>sL p t&&oa p l
end
def yS (t:Int):Bool:=t != 8&&t != 10&&t != 13&&t != 14&&t != 15&&decide (arity t>=0)
def rO (t:Int):Bool:=t != 8&&t != 14&&t != 15
def fC (t:Ty):Bool:=sL yS t
def ga (t:Ty):Bool:=sL rO t
mutual
def C7 (p:Int->Bool):Ty->Bool
 | .mk T args=>if T=14 then true else p T&&Hg p args
def Hg (p:Int->Bool):List Ty->Bool
 | []=>true
 | t::l=>C7 p t&&Hg p l
end
def Sk (t:Int):Bool:=t != 15&&t != 8
def L8 (t:Int):Bool:=t != 8
def lz (t:Ty):Bool:=C7 Sk t
def ju (t:Ty):Bool:=C7 L8 t
def kj:List Ty->Bool
 | []=>false
 | t::_=>fC t
mutual
def eN:Ty->Int->Int->Bool×Int
 | .mk T args,d,n=>if d>24\/n+1>300\/arity T≠args.length then(false,n+1)else
  match dL args (d+1) (n+1)with
  | (true,m)=>(if T=13\/T=15 then kj args else true,m)
  | (false,m)=>(false,m)
def dL:List Ty->Int->Int->Bool×Int
 | [],_,n=>(true,n)
 | t::l,d,n=>match eN t d n with
  | (true,m)=>dL l d m
  | (false,m)=>(false,m)
end
def bw (t:Ty):Bool:=(eN t 1 0).1
mutual
theorem rL:∀(t:Ty) (d n:Int),n<=300->n<(eN t d n).2/\(eN t d n).2<=301/\((eN t d n).1=true->(eN t d n).2<=300)
 | .mk T args,d,n,Y=>by
  simp only[eN];split
  ·refine⟨lD,lD,c9⟩
  ·rename_i h;have S:=Gy args (d+1) (n+1) bn;split
   ·rename_i m M;rw[M]at S;have:=S.2.2 rfl;refine⟨sy,by simp only at this ⊢;omega,fun _=>this⟩
   ·rename_i m M;rw[M]at S;refine⟨sy,S.2.1,c9⟩
theorem Gy:∀(l:List Ty) (d n:Int),n<=300->n<=(dL l d n).2/\(dL l d n).2<=301/\((dL l d n).1=true->(dL l d n).2<=300)
 | [],d,n,Y=>by simp only[dL];exact⟨bn,bn,fun _=>Y⟩
 | t::l,d,n,Y=>by
  have S:=rL t d n Y;simp only[dL];split
  ·rename_i m M;rw[M]at S;have h1:=S.2.2 rfl;have h2:=S.1;simp only at h1 h2;have W:=Gy l d m h1;exact⟨bn,W.2⟩
  ·rename_i m M;rw[M]at S;have h1:=S.1;have h2:=S.2.1;simp only at h1 h2;exact⟨oy,h2,c9⟩
end
mutual
def fA:Nd->Int->Int->Option Ty×Int
 | .mk kind n p s args,d,left=>if left-1<0\/d>24\/kind≠2\/n≠0\/s≠[]\/arity p≠args.length then(none,left-1)else
  match dM args (d+1) (left-1)with
  | (some l,m)=>(some (.mk p l),m)
  | (none,m)=>(none,m)
def dM:List Nd->Int->Int->Option (List Ty)×Int
 | [],_,left=>(some [],left)
 | x::l,d,left=>match fA x d left with
  | (some t,m)=>match dM l d m with
   | (some r,Y)=>(some (t::r),Y)
   | (none,Y)=>(none,Y)
  | (none,m)=>(none,m)
end
mutual
theorem Fk:∀(t:Nd) (d n:Int),0<=n->(fA t d n).2<n /\ -1<=(fA t d n).2/\((fA t d n).1≠none->0<=(fA t d n).2)
 | .mk kind A p s args,d,n,V=>by
  simp only[fA];split
  ·refine⟨lD,lD,c9⟩
  ·rename_i h;have S:=Et args (d+1) (n-1) bn;split
   ·rename_i l m M;rw[M]at S;have:=S.2.2 c9;exact⟨sy,by simp only at this ⊢;omega,fun _=>this⟩
   ·rename_i m M;rw[M]at S;exact⟨sy,S.2.1,c9⟩
theorem Et:∀(l:List Nd) (d n:Int),0<=n->(dM l d n).2<=n /\ -1<=(dM l d n).2/\((dM l d n).1≠none->0<=(dM l d n).2)
 | [],d,n,V=>by simp only[dM];exact⟨bn,bn,fun _=>V⟩
 | t::l,d,n,V=>by
  have S:=Fk t d n V;simp only[dM];split
  ·rename_i y m M;rw[M]at S;have h1:=S.2.2 c9;have h2:=S.1;simp only at h1 h2;have Y:=Et l d m h1;split
   ·rename_i r U W;rw[W]at Y;have:=Y.1;simp only at this;exact⟨oy,Y.2.1,fun _=>Y.2.2 c9⟩
   ·rename_i U W;rw[W]at Y;have:=Y.1;simp only at this;exact⟨oy,Y.2.1,c9⟩
  ·rename_i m M;rw[M]at S;have h1:=S.1;have h2:=S.2.1;simp only at h1 h2;exact⟨oy,h2,c9⟩
end
def aZ (n:Nd):Ty×Int:=match (fA n 1 300).1 with
 | some t=>if bw t then(t,0)else(.mk 0 [],1)
 | none=>(.mk 0 [],1)
mutual
def PT:Ty->Nd
 | .mk T args => .mk 2 0 T [] (JJ args)
def JJ:List Ty->List Nd
 | []=>[]
 | t::l=>PT t::JJ l
end
def sM:Nd := .mk 0 0 0 [] []
def lA:Ty := .mk 0 []
def Zn (t:Ty):Nd×Int:=if bw t then(PT t,0)else(sM,1)
mutual
def cP:Ty->Ty->Bool
 | .mk T l,.mk U r=>T==U&&gI l r
def gI:List Ty->List Ty->Bool
 | [],[]=>true
 | t::l,u::r=>cP t u&&gI l r
 | _,_=>false
end
mutual
def oF:Nd->Nd->Bool
 | .mk a b c s l,.mk q P Y W p=>a==q&&b==P&&c==Y&&s==W&&jS l p
def jS:List Nd->List Nd->Bool
 | [],[]=>true
 | t::l,u::r=>oF t u&&jS l r
 | _,_=>false
end
mutual
theorem gh:∀(t u:Ty),cP t u=true↔t=u
 | .mk T l,.mk U r=>by simp[cP,mA l r]
theorem mA:∀(t u:List Ty),gI t u=true↔t=u
 | [],[]=>by simp[gI]
 | [],_::_=>by simp[gI]
 | _::_,[]=>by simp[gI]
 | t::l,u::r=>by simp[gI,gh t u,mA l r]
end
mutual
theorem NO:∀(t u:Nd),oF t u=true↔t=u
 | .mk a b c s l,.mk q P Y W p=>by simp[oF,vJ l p,and_assoc]
theorem vJ:∀(t u:List Nd),jS t u=true↔t=u
 | [],[]=>by simp[jS]
 | [],_::_=>by simp[jS]
 | _::_,[]=>by simp[jS]
 | t::l,u::r=>by simp[jS,NO t u,vJ l r]
end
mutual
def WN:Ty->Bool
 | .mk T args=>decide (arity T>=0)&&T5 args
def T5:List Ty->Bool
 | []=>true
 | t::l=>WN t&&T5 l
end
mutual
def WO (Y:Bool) (q:List Int):Ty->Bool
 | .mk T args=>if q.contains T then false else if T=14/\Y=false then true else T6 Y q args
def T6 (Y:Bool) (q:List Int):List Ty->Bool
 | []=>true
 | t::l=>WO Y q t&&T6 Y q l
end
def aeg (t:Ty):Bool:=WN t&&WO true [8,10,13,14,15] t
mutual
def xq:Ty->Int->Int->Bool×Int
 | .mk T args,d,left=>if d=0\/left=0\/arity T≠args.length then(false,0)else
  match rI args (d-1) (left-1)with
  | (true,m)=>(if T=13\/T=15 then kj args else true,m)
  | (false,_)=>(false,0)
def rI:List Ty->Int->Int->Bool×Int
 | [],_,left=>(true,left)
 | t::l,d,left=>match xq t d left with
  | (true,m)=>rI l d m
  | (false,_)=>(false,0)
end
mutual
theorem Ld:∀(t:Ty) (d n:Int),d<=25->n<=300->(xq t (25-d) (300-n)).1=(eN t d n).1/\((eN t d n).1=true->(xq t (25-d) (300-n)).2=300-(eN t d n).2)
 | .mk T args,d,n,p,Y=>by
  simp only[eN,xq];by_cases h:d>24\/n+1>300\/arity T≠args.length
  ·rw[if_pos h,if_pos bn];simp
  ·rw[if_neg h,if_neg bn];have S:=Gz args (d+1) (n+1) bn bn;rw[show 25-(d+1)=25-d-1 from by omega,show 300-(n+1)=300-n-1 from by omega]at S;rcases D:dL args (d+1) (n+1)with ⟨b,m⟩
   rcases I:rI args (25-d-1) (300-n-1)with ⟨P,W⟩
   rw[D,I]at S;obtain⟨C,U⟩:=S;simp only at C U;subst C;cases P
   ·simp
   ·simp only;exact⟨trivial,fun _=>U rfl⟩
theorem Gz:∀(l:List Ty) (d n:Int),d<=25->n<=300->(rI l (25-d) (300-n)).1=(dL l d n).1/\((dL l d n).1=true->(rI l (25-d) (300-n)).2=300-(dL l d n).2)
 | [],d,n,p,Y=>by simp[dL,rI]
 | t::l,d,n,p,Y=>by
  have S:=Ld t d n p Y;have J:=rL t d n Y;simp only[dL,rI];rcases D:eN t d n with ⟨b,m⟩
  rcases I:xq t (25-d) (300-n)with ⟨P,W⟩
  rw[D,I]at S;rw[D]at J;obtain⟨C,U⟩:=S;simp only at C U J;subst C;cases P
  ·simp
  ·simp only;rw[U rfl];exact Gz l d m p (J.2.2 rfl)
end
theorem Fq (t:Ty):(xq t 24 300).1=bw t:=by
 have:=(Ld t 1 0 bn bn).1;simpa[bw]using this
mutual
def T7:Nd->Int->Int->Ty×Int
 | .mk kind n p s args,d,left=>if kind≠2\/n≠0\/s≠[]\/d=0\/left-1<0 then(lA,left-1)else
  match T8 args (d-1) (left-1)with
  | (l,m)=>(.mk p l,m)
def T8:List Nd->Int->Int->List Ty×Int
 | [],_,left=>([],left)
 | x::l,d,left=>match T7 x d left with
  | (t,m)=>match T8 l d m with
   | (r,Y)=>(t::r,Y)
end
mutual
def gm:Ty->Bool
 | .mk T args=>decide (arity T≠args.length)||mD args
def mD:List Ty->Bool
 | []=>false
 | t::l=>gm t||mD l
end
mutual
theorem CE:∀(t:Ty) (d n:Int),gm t=true->(xq t d n).1=false
 | .mk T args,d,n,h=>by
  simp only[xq];split
  ·rfl
  ·rename_i E;simp only[gm,aat,decide_eq_true_eq]at h;have h2:mD args=true:=by
    rcases h with h|h
    ·omega
    ·exact h
   have S:=GA args (d-1) (n-1) h2;rcases I:rI args (d-1) (n-1)with ⟨b,m⟩
   rw[I]at S;simp only at S;subst S;rfl
theorem GA:∀(l:List Ty) (d n:Int),mD l=true->(rI l d n).1=false
 | [],d,n,h=>by simp[mD]at h
 | t::l,d,n,h=>by
  simp only[mD,aat]at h;simp only[rI];rcases I:xq t d n with ⟨b,m⟩
  cases b
  ·rfl
  ·have h2:mD l=true:=by
    rcases h with h|h
    ·have:=CE t d n h;rw[I]at this;simp at this
    ·exact h
   exact GA l d m h2
end
def adm (n:Nd):Ty×Int:=if(xq (T7 n 24 300).1 24 300).1 then((T7 n 24 300).1,0)else(.mk 0 [],1)
end Go.cq
namespace Go.cq
abbrev bP:Int:=1152921504606846976
def qO (p:Int):Bool:=decide ((1<=p/\p<=15)\/(20<=p/\p<=28)\/(40<=p/\p<=95))
def gk (kind n p:Int) (s:List UInt8) (k:Nat) (d:Int):Int :=
 if d>24 then 4
 else if kind<0\/kind>3\/kind=2/\qO p=false then 3
 else if kind≠0/\n≠0\/kind≠2/\p≠0\/kind≠1/\s≠[]\/kind<2/\0<k then 1
 else if n < -bP\/n>bP then 2
 else if 200<s.length then 4 else 0
mutual
def ep:Nd->Int->Int
 | .mk kind n p s args,d=>if gk kind n p s args.length d=0 then dg args (d+1)else gk kind n p s args.length d
def dg:List Nd->Int->Int
 | [],_=>0
 | x::l,d=>if ep x d=0 then dg l d else ep x d
end
mutual
def many:Nd->Nat
 | .mk _ _ _ _ args=>cI args+1
def cI:List Nd->Nat
 | []=>0
 | x::l=>many x+cI l
end
def dG (n:Nd):Int:=if ep n 1=0 then(if 300<many n then 4 else 0)else ep n 1
def AM (c m:Nat):List UInt8 :=
 if m=0 then [byteOf (c:Nat)]else byteOf ((c+128:Nat):Int)::AM (m%128) (m/128)
termination_by m
decreasing_by omega
def jd (n:Int):List UInt8:=AM ((if n<0 then 64 else 0)+n.natAbs%64) (n.natAbs/64)
mutual
def dR:Nd->List UInt8
 | .mk kind n p s args =>
  if kind=0 then byteOf kind::jd n
  else if kind=1 then byteOf kind::(jd (s.length:Int)++s)
  else if kind=2 then byteOf kind::byteOf p::(jd (args.length:Int)++eS args)
  else byteOf kind::(jd (args.length:Int)++eS args)
def eS:List Nd->List UInt8
 | []=>[]
 | x::l=>dR x++eS l
end
def HE (n:Nd):List UInt8×Int:=if dG n=0 then(dR n,0)else([],dG n)
def qq:List UInt8->Nat->Nat->Option (Nat×List UInt8)
 | [],_,_=>none
 | b::s,n,sh=>if b.toNat=0\/sh>55 then none
  else if b.toNat>=128 then qq s (n+b.toNat%128*2^sh) (sh+7)else some (n+b.toNat%128*2^sh,s)
def lg (b:UInt8) (s:List UInt8):Option (Nat×List UInt8):=if b.toNat>=128 then qq s (b.toNat%64) 6 else some (b.toNat%64,s)
def eU:List UInt8->Option (Int×List UInt8)
 | []=>none
 | b::s=>match lg b s with
  | none=>none
  | some (n,r)=>if(b.toNat/64%2=1/\n=0)\/n>1152921504606846976 then none else some (if b.toNat/64%2=1 then -(n:Int)else n,r)
theorem iO (c:Nat) (h:c<256):(byteOf (c:Int)).toNat=c:=by
 have:=nB (c:Int);rw[show IntKind.u8.wrap (c:Int)=c from by simp[IntKind.wrap,IntKind.bits,IntKind.signed];omega]at this;omega
theorem lu (b:UInt8):byteOf ((b.toNat:Nat):Int)=b:=by
 apply UInt8.toNat_inj.1;rw[iO _ b.toNat_lt]
theorem mw (c:Nat):AM c 0=[byteOf (c:Nat)]:=by rw[AM];simp
theorem nJ (c m:Nat) (h:m≠0):AM c m=byteOf ((c+128:Nat):Int)::AM (m%128) (m/128):=by rw[AM,if_neg h]
theorem QJ:∀(m c n Y:Nat) (r:List UInt8),c<128->c+128*m≠0->Y%7=6->(c+128*m)*2^Y<=2^60->qq (AM c m++r) n Y=some (n+(c+128*m)*2^Y,r):=by
 intro m
 induction m using Nat.strongRecOn with
 | ind m S =>
  intro c n Y r E N T G;have U:Y<=60:=by
   have h1:2^Y<=2^60:=Nat.le_trans (Nat.le_mul_of_pos_left _ bn) G;exact(Nat.pow_le_pow_iff_right bn).1 h1
  by_cases M:m=0
  ·subst M;rw[mw];simp only[List.cons_append,List.nil_append,qq];rw[iO _ bn,if_neg bn,if_neg bn,Nat.mod_eq_of_lt E];simp
  ·rw[nJ _ _ M];simp only[List.cons_append,qq];rw[iO _ bn,if_neg bn,if_pos bn];have e:(c+128)%128=c:=by omega
   have W:m%128+128*(m/128)=m:=by omega
   have V:2^(Y+7)=128*2^Y:=by rw[Nat.pow_add];omega
   rw[e,S (m/128) bn (m%128) _ _ r bn bn bn (by
    rw[W,V];refine Nat.le_trans ?_ G;rw[<- Nat.mul_assoc,Nat.mul_comm m 128]
    exact Nat.mul_le_mul_right _ bn)]
   rw[W,V];congr 2;rw[Nat.add_mul,Nat.add_assoc,<- Nat.mul_assoc,Nat.mul_comm m 128]
theorem Eu:∀(s:List UInt8) (n Y v:Nat) (r:List UInt8),qq s n Y=some (v,r)->∃c m,c<128/\c+128*m≠0/\s=AM c m++r/\v=n+(c+128*m)*2^Y
 | [],n,Y,v,r,h=>by simp[qq]at h
 | b::s,n,Y,v,r,h=>by
  have T:=b.toNat_lt;simp only[qq]at h;split at h
  ·simp at h
  ·rename_i U;split at h
   ·rename_i h1;obtain⟨c,m,E,W,G,V⟩:=Eu s _ _ v r h;have S:2^(Y+7)=128*2^Y:=by rw[Nat.pow_add];omega
    refine⟨b.toNat%128,c+128*m,bn,bn,?_,?_⟩
    ·rw[nJ _ _ W,show(c+128*m)%128=c from by omega,show(c+128*m)/128=m from by omega,show b.toNat%128+128=b.toNat from by omega,lu,G];rfl
    ·grind
   ·rename_i h1;simp at h;refine⟨b.toNat,0,bn,bn,?_,?_⟩
    ·rw[mw,lu,h.2];rfl
    ·grind
theorem qT (n:Int) (r:List UInt8) (h1 : -bP<=n) (h2:n<=bP):eU (jd n++r)=some (n,r):=by
 have Y:n.natAbs<=1152921504606846976:=by unfold bP at h1 h2;omega
 unfold jd;generalize G:(if n<0 then 64 else 0:Nat)=sg;have W:(sg=64/\n<0)\/(sg=0/\0<=n):=by split at G<;>omega
 generalize O:n.natAbs=a at Y ⊢;by_cases M:a/64=0
 ·rw[M,mw];simp only[List.cons_append,List.nil_append,eU,lg];rw[iO _ bn,if_neg bn];simp only;rw[if_neg bn];simp only[Option.some.injEq,Prod.mk.injEq,and_true];split<;>omega
 ·rw[nJ _ _ M];simp only[List.cons_append,eU,lg]
  rw[iO _ bn,if_pos bn,QJ _ _ _ _ _ bn bn bn (by
   rw[show a/64%128+128*(a/64/128)=a/64 from by omega];omega)]
  simp only;rw[show a/64%128+128*(a/64/128)=a/64 from by omega];have e:(sg+a%64+128)%64+a/64*2^6=a:=by omega
  rw[e,if_neg bn];simp only[Option.some.injEq,Prod.mk.injEq,and_true];split<;>omega
theorem nh {s:List UInt8} {n:Int} {r:List UInt8} (h:eU s=some (n,r)):s=jd n++r /\ -bP<=n/\n<=bP:=by
 cases s with
 | nil=>simp[eU]at h
 | cons b s =>
  have T:=b.toNat_lt;simp only[eU]at h;split at h
  ·simp at h
  ·rename_i v Q W;split at h
   ·simp at h
   ·rename_i S;simp only[Option.some.injEq,Prod.mk.injEq]at h;obtain⟨h1,rfl⟩:=h;unfold bP;unfold lg at W;split at W
    ·rename_i E;obtain⟨c,m,P,q,G,V⟩:=Eu _ _ _ _ _ W;have Y:n.natAbs=v:=by split at h1<;>omega
     refine⟨?_,T1,T1⟩;unfold jd;rw[Y];have C:v/64=c+128*m:=by omega
     have U:v%64=b.toNat%64:=by omega
     rw[C,U,nJ _ _ q,show(c+128*m)%128=c from by omega,show(c+128*m)/128=m from by omega,G];have B:(if n<0 then 64 else 0:Nat)+b.toNat%64+128=b.toNat:=by split at h1<;>split<;>omega
     rw[B,lu];rfl
    ·rename_i E;simp at W;obtain⟨W,rfl⟩:=W;have Y:n.natAbs=v:=by split at h1<;>omega
     refine⟨?_,T1,T1⟩;unfold jd;rw[Y,show v/64=0 from by omega,mw,show v%64=b.toNat%64 from by omega];have B:(if n<0 then 64 else 0:Nat)+b.toNat%64=b.toNat:=by split at h1<;>split<;>omega
     rw[B,lu];rfl
theorem II {s:List UInt8} {n:Int} {r:List UInt8} (t:List UInt8) (h:eU s=some (n,r)):eU (s++t)=some (n,r++t):=by
 obtain⟨h1,h2,V⟩:=nh h;rw[h1,List.append_assoc];exact qT n (r++t) h2 V
inductive Rd (α:Type) where
 | ok (a:α) (s:List UInt8) (left:Nat)
 | no (e:Int)
def mV (f:List UInt8->Nat->Rd Nd):Nat->List UInt8->Nat->Rd (List Nd)
 | 0,s,left => .ok [] s left
 | k+1,s,left=>match f s left with
  | .no e => .no e
  | .ok x P Y=>match mV f k P Y with
   | .no e => .no e
   | .ok l Q W => .ok (x::l) Q W
def oK (f:List UInt8->Nat->Rd Nd) (kind p:Int) (s:List UInt8) (left:Nat):Rd Nd :=
 match eU s with
 | none => .no 1
 | some (k,P)=>if k<0 then .no 1 else match mV f k.toNat P left with
  | .no e => .no e
  | .ok l Q Y => .ok (.mk kind 0 p [] l) Q Y
def rG (f:List UInt8->Nat->Rd Nd) (c:Nat) (s:List UInt8) (left:Nat):Rd Nd :=
 if c=0 then(match eU s with
  | none => .no 1
  | some (n,P) => .ok (.mk 0 n 0 [] []) P left)
 else if c=1 then(match eU s with
  | none => .no 1
  | some (n,P)=>if n<0\/n>200\/n>P.length then .no 1 else .ok (.mk 1 0 0 (P.take n.toNat) []) (P.drop n.toNat) left)
 else if c=2 then(match s with
  | [] => .no 1
  | p::P=>if qO p.toNat=true then oK f 2 p.toNat P left else .no 1)
 else if c=3 then oK f 3 0 s left
 else .no 1
def eZ:Nat->List UInt8->Nat->Rd Nd
 | 0,_,_ => .no 4
 | g+1,s,left=>if left=0 then .no 4 else match s with
  | [] => .no 1
  | c::s'=>rG (eZ g) c.toNat s' (left-1)
def eR (s:List UInt8):Nd×Int:=match eZ 24 s 300 with
 | .no e=>(sM,e)
 | .ok n r _=>if r=[]then(n,0)else(sM,1)
theorem UW (n:Int):jd n≠[]:=by
 unfold jd;rw[AM];split<;>simp
theorem GB:∀l:List Nd,l.length<=cI l
 | []=>aak _
 | .mk _ _ _ _ _::l=>by have:=GB l;simp only[aac,cI,many];omega
theorem jF {kind n p:Int} {s:List UInt8} {args:List Nd} {d:Int} (h:ep (.mk kind n p s args) d=0):gk kind n p s args.length d=0/\dg args (d+1)=0:=by
 simp only[ep]at h;by_cases Y:gk kind n p s args.length d=0
 ·omega
 ·omega
theorem mh {kind n p:Int} {s:List UInt8} {k:Nat} {d:Int} (h:gk kind n p s k d=0) :
  d<=24/\(kind=0\/kind=1\/kind=2/\qO p=true\/kind=3)/\(kind≠0->n=0)/\(kind≠2->p=0)/\(kind≠1->s=[])/\(kind<2->k=0) /\ -bP<=n/\n<=bP/\s.length<=200:=by
 unfold gk at h;split at h
 ·omega
 ·split at h
  ·omega
  ·grind
theorem wP {kind n p:Int} {s:List UInt8} {k:Nat} {d:Int} (U:d<=24) (h1:kind=0\/kind=1\/kind=2/\qO p=true\/kind=3) (h2:kind≠0->n=0) (V:kind≠2->p=0) (Y:kind≠1->s=[]) (W:kind<2->k=0) (B : -bP<=n) (N:n<=bP) (A:s.length<=200):gk kind n p s k d=0:=by
 unfold gk;rw[if_neg bn,if_neg,if_neg,if_neg bn,if_neg bn]
 ·simp_all
 ·grind
theorem Le {p:Int} (h:qO p=true):1<=p/\p<=95:=by
 unfold qO at h;have:=of_decide_eq_true h;omega
theorem zJ:∀(g:Nat) (n:Nd) (r:List UInt8) (left:Nat),left<=300->ep n (25-g)=0->many n<=left->eZ g (dR n++r) left = .ok n r (left-many n)
 | 0,.mk kind n p s args,r,left,hl,h,M=>by
  have:=(mh (jF h).1).1;omega
 | g+1,.mk kind n p s args,r,left,hl,h,M=>by
  obtain⟨h1,h2⟩:=jF h;obtain⟨hd,D,W,A,G,u,V,T,oM⟩:=mh h1;simp only[many]at M ⊢;have hf:∀(n:Nd) (r:List UInt8) (Y:Nat),Y<=300->ep n (25-g)=0->many n<=Y->eZ g (dR n++r) Y = .ok n r (Y-many n):=fun n r Y=>zJ g n r Y;have K:∀(l:List Nd) (r:List UInt8) (Y:Nat),Y<=300->dg l (25-g)=0->cI l<=Y->mV (eZ g) l.length (eS l++r) Y = .ok l r (Y-cI l):=by
   intro l
   induction l with
   | nil=>intro r Y _ _ _;simp[mV,eS,cI]
   | cons x l I =>
    intro r Y S h M;simp only[dg]at h;simp only[cI]at M;have O:ep x (25-g)=0:=by by_cases P:ep x (25-g)=0;exact P;rw[if_neg P]at h;exact h
    rw[if_pos O]at h;simp only[aac,mV,eS,List.append_assoc,cI];rw[hf x _ Y S O bn];simp only;rw[I r _ bn h bn];simp only[Nat.sub_sub]
  have U:∀(kind p:Int),dg args (25-g)=0->oK (eZ g) kind p (jd (args.length:Int)++eS args++r) (left-1) = .ok (.mk kind 0 p [] args) r (left-1-cI args):=by
   intro kind p H;have:=GB args;unfold oK;rw[List.append_assoc,qT _ _ gS gS];simp only;rw[if_neg bn,show((args.length:Nat):Int).toNat=args.length from by omega,K args r (left-1) bn H bn]
  have N:dg args (25-g)=0:=by rw[<- h2];congr 1;omega
  have e:left-(cI args+1)=left-1-cI args:=by omega
  rw[e];simp only[eZ];rw[if_neg bn];have E:(byteOf 0).toNat=0:=rfl;have C:(byteOf 1).toNat=1:=rfl;have B:(byteOf 2).toNat=2:=rfl;have b3:(byteOf 3).toNat=3:=rfl;rcases D with rfl|rfl|⟨rfl,J⟩|rfl
  ·have:=u bn;rw[List.length_eq_zero_iff]at this;subst this;obtain rfl:=A bn;obtain rfl:=G bn;simp only[dR,if_true,List.cons_append,rG,E];rw[qT _ _ V T];simp[cI]
  ·have:=u bn;rw[List.length_eq_zero_iff]at this;subst this;obtain rfl:=A bn;obtain rfl:=W bn;simp only[dR,show ¬((1:Int)=0)from by omega,if_false,if_true,List.cons_append,rG,C,show ¬((1:Nat)=0)from by omega];rw[List.append_assoc,qT _ _ gS gS];simp only;rw[if_neg WI];simp[cI]
  ·obtain rfl:=W bn;obtain rfl:=G bn;have KF:=Le J;have Q:(byteOf p).toNat=p:=by
    obtain⟨q,rfl⟩:∃q:Nat,p=q:=⟨p.toNat,bn⟩
    rw[iO _ bn]
   simp only[dR,show ¬((2:Int)=0)from by omega,show ¬((2:Int)=1)from by omega,if_false,if_true,List.cons_append,rG,B,show ¬((2:Nat)=0)from by omega,show ¬((2:Nat)=1)from by omega];rw[Q,if_pos J,U 2 p N]
  ·obtain rfl:=W bn;obtain rfl:=G bn;obtain rfl:=A bn;simp only[dR,show ¬((3:Int)=0)from by omega,show ¬((3:Int)=1)from by omega,show ¬((3:Int)=2)from by omega,if_false,if_true,List.cons_append,rG,b3,show ¬((3:Nat)=0)from by omega,show ¬((3:Nat)=1)from by omega,show ¬((3:Nat)=2)from by omega];rw[U 3 0 N]
theorem wQ:∀(g:Nat) (s:List UInt8) (left:Nat) (n:Nd) (r:List UInt8) (Y:Nat),g<=24->eZ g s left = .ok n r Y->s=dR n++r/\ep n (25-g)=0/\left=Y+many n
 | 0,s,left,n,r,Y,_,h=>by simp[eZ]at h
 | g+1,s,left,n,r,Y,hg,h=>by
  have C:=fun s left n r Y=>wQ g s left n r Y bn;have K:∀(k:Nat) (s:List UInt8) (left:Nat) (l:List Nd) (r:List UInt8) (Y:Nat),mV (eZ g) k s left = .ok l r Y->s=eS l++r/\dg l (25-g)=0/\left=Y+cI l/\l.length=k:=by
   intro k
   induction k with
   | zero=>intro s left l r Y h;simp[mV]at h;obtain⟨rfl,rfl,rfl⟩:=h;simp[eS,dg,cI]
   | succ k N =>
    intro s left l r Y h;simp only[mV]at h;split at h
    ·simp at h
    ·rename_i x s1 l1 q;split at h
     ·simp at h
     ·rename_i l2 B u A;simp at h;obtain⟨rfl,rfl,rfl⟩:=h;obtain⟨e1,e2,e3⟩:=C _ _ _ _ _ q;obtain⟨T,S,P,M⟩:=N _ _ _ _ _ A;refine⟨?_,?_,?_,?_⟩
      ·rw[e1,T];simp[eS]
      ·simp[dg,e2,S]
      ·simp only[cI];omega
      ·simp[M]
  have U:∀(kind p:Int) (s:List UInt8) (left:Nat) (n:Nd) (r:List UInt8) (Y:Nat),oK (eZ g) kind p s left = .ok n r Y->∃l,n = .mk kind 0 p [] l/\s=jd (l.length:Int)++eS l++r/\dg l (25-g)=0/\left=Y+cI l:=by
   intro kind p s left n r Y h;unfold oK at h;split at h
   ·simp at h
   ·rename_i k J hk;split at h
    ·simp at h
    ·rename_i wZ;split at h
     ·simp at h
     ·rename_i l B u A;simp at h;obtain⟨rfl,rfl,rfl⟩:=h;obtain⟨T,S,P,M⟩:=K _ _ _ _ _ _ A;obtain⟨O,_,_⟩:=nh hk;refine⟨l,rfl,?_,S,P⟩;rw[O,T,M,List.append_assoc,show((k.toNat:Nat):Int)=k from by omega]
  simp only[eZ]at h;split at h
  ·simp at h
  ·rename_i A;cases s with
   | nil=>simp at h
   | cons c s =>
    simp only at h;have H:(25-((g+1:Nat):Int))<=24:=by omega
    have Q:(25-((g+1:Nat):Int))+1=25-(g:Int):=by omega
    have W:=lu c;unfold rG at h;split at h
    ·rename_i E;split at h
     ·simp at h
     ·rename_i v J I;simp at h;obtain⟨rfl,rfl,rfl⟩:=h;obtain⟨O,G,D⟩:=nh I;refine⟨?_,?_,by simp only[many,cI];omega⟩
      ·simp only[dR,if_true];rw[O,<- W,E];rfl
      ·simp only[ep];rw[if_pos (wP H (.inl rfl) c9 c9 c9 c9 G D c9)];rfl
    ·rename_i hc0;split at h
     ·rename_i E;split at h
      ·simp at h
      ·rename_i v J I;split at h
       ·simp at h
       ·rename_i IT;simp at h;obtain⟨rfl,rfl,rfl⟩:=h;obtain⟨O,G,D⟩:=nh I;have V:(J.take v.toNat).length=v.toNat:=by rw[List.length_take];omega
        refine⟨?_,?_,by simp only[many,cI];omega⟩
        ·simp only[dR,show ¬((1:Int)=0)from by omega,if_false,if_true];rw[V,show((v.toNat:Nat):Int)=v from by omega,O,<- W,E];simp[List.append_assoc]
        ·simp only[ep];rw[if_pos (wP H (.inr (.inl rfl)) c9 c9 c9 c9 gS gS (by rw[V];omega))];rfl
     ·rename_i BR;split at h
      ·rename_i E;cases s with
       | nil=>simp at h
       | cons p s =>
        simp only at h;split at h
        ·rename_i hp;obtain⟨l,rfl,T,S,P⟩:=U _ _ _ _ _ _ _ h;have WQ:=lu p;refine⟨?_,?_,by simp only[many];omega⟩
         ·simp only[dR,show ¬((2:Int)=0)from by omega,show ¬((2:Int)=1)from by omega,if_false,if_true];rw[T,WQ,<- W,E];rfl
         ·simp only[ep];rw[if_pos (wP H (.inr (.inr (.inl ⟨rfl,hp⟩))) c9 c9 c9 c9 gS gS c9),Q];exact S
        ·simp at h
      ·rename_i wg;split at h
       ·rename_i E;obtain⟨l,rfl,T,S,P⟩:=U _ _ _ _ _ _ _ h;refine⟨?_,?_,by simp only[many];omega⟩
        ·simp only[dR,show ¬((3:Int)=0)from by omega,show ¬((3:Int)=1)from by omega,show ¬((3:Int)=2)from by omega,if_false];rw[T,<- W,E];rfl
        ·simp only[ep];rw[if_pos (wP H (.inr (.inr (.inr rfl))) c9 c9 c9 c9 gS gS c9),Q];exact S
       ·simp at h
theorem Lf {g:Nat} {s:List UInt8} (t:List UInt8) {left:Nat} {n:Nd} {r:List UInt8} {Y:Nat} (E:g<=24) (A:left<=300) (h:eZ g s left = .ok n r Y):eZ g (s++t) left = .ok n (r++t) Y:=by
 obtain⟨h1,h2,V⟩:=wQ g s left n r Y E h;rw[h1,List.append_assoc,zJ g n (r++t) left A h2 bn,show left-many n=Y from by omega]
theorem GC:∀(g:Nat) (s:List UInt8) (left:Nat) (e:Int),g<=24->left<=300->eZ g s left = .no e->e=1\/e=4/\∀t,eZ g (s++t) left = .no 4
 | 0,s,left,e,_,_,h=>by simp[eZ]at h;right;exact⟨h.symm,fun t=>rfl⟩
 | g+1,s,left,e,hg,aei,h=>by
  have K:∀(k:Nat) (s:List UInt8) (left:Nat) (e:Int),left<=300->mV (eZ g) k s left = .no e->e=1\/e=4/\∀t,mV (eZ g) k (s++t) left = .no 4:=by
   intro k
   induction k with
   | zero=>intro s left e _ h;simp[mV]at h
   | succ k T =>
    intro s left e A h;simp only[mV]at h;split at h
    ·rename_i C Y;simp at h;subst h;refine(GC g s left _ bn A Y).imp id fun⟨h1,h2⟩=>⟨h1,fun t=>?_⟩
     simp only[mV,h2 t]
    ·rename_i x Q P O;have J:=(wQ g _ _ _ _ _ bn O).2.2;split at h
     ·rename_i C Y;simp at h;subst h;refine(T Q P _ bn Y).imp id fun⟨h1,h2⟩=>⟨h1,fun t=>?_⟩
      simp only[mV,Lf t bn A O,h2 t]
     ·simp at h
  have U:∀(kind p:Int) (s:List UInt8) (left:Nat) (e:Int),left<=300->oK (eZ g) kind p s left = .no e->e=1\/e=4/\∀t,oK (eZ g) kind p (s++t) left = .no 4:=by
   intro kind p s left e A h;unfold oK at h;split at h
   ·simp_all
   ·rename_i k I D;split at h
    ·simp_all
    ·rename_i u;split at h
     ·rename_i C Y;simp at h;subst h;refine(K _ _ _ _ A Y).imp id fun⟨h1,h2⟩=>⟨h1,fun t=>?_⟩
      unfold oK;rw[II t D];simp only;rw[if_neg u,h2 t]
     ·simp at h
  simp only[eZ]at h;split at h
  ·rename_i V;simp at h;subst h;right;exact⟨rfl,fun t=>by simp only[eZ,if_pos V]⟩
  ·rename_i V;cases s with
   | nil=>simp at h;exact .inl h.symm
   | cons c s =>
    simp only at h;unfold rG at h;split at h
    ·grind
    ·rename_i W;split at h
     ·grind
     ·rename_i S;split at h
      ·rename_i q;cases s with
       | nil=>simp at h;exact .inl h.symm
       | cons p s =>
        simp only at h;split at h
        ·rename_i N;refine(U _ _ _ _ _ bn h).imp id fun⟨h1,h2⟩=>⟨h1,fun t=>?_⟩
         simp only[eZ,if_neg V,List.cons_append,rG,if_neg W,if_neg S,if_pos q,if_pos N,h2 t]
        ·simp_all
      ·rename_i q;split at h
       ·rename_i M;refine(U _ _ _ _ _ bn h).imp id fun⟨h1,h2⟩=>⟨h1,fun t=>?_⟩
        simp only[eZ,if_neg V,List.cons_append,rG,if_neg W,if_neg S,if_neg q,if_pos M,h2 t]
       ·simp_all
theorem kr {n:Nd}:dG n=0↔ep n 1=0/\many n<=300:=by
 unfold dG;split
 ·omega
 ·rename_i h;simp[h]
theorem GZ {s:List UInt8} (h:(eR s).2=0):dG (eR s).1=0/\dR (eR s).1=s:=by
 unfold eR at h ⊢;split at h
 ·rename_i e P;simp at h;subst h;have:=GC 24 s 300 0 bn bn P;omega
 ·rename_i n r l Y;obtain⟨h1,h2,V⟩:=wQ 24 _ _ _ _ _ bn Y;split at h
  ·rename_i I;simp only[if_pos I];refine⟨kr.2 ⟨h2,bn⟩,by rw[h1,I,List.append_nil]⟩
  ·simp at h
theorem Jp {s:List UInt8} (h:(eR s).2≠0):(eR s).1=sM:=by
 unfold eR at h ⊢;split at h
 ·rfl
 ·grind
end Go.cq
