/- What the functions In, Abs, bound, Add, Sub and Ediv of package num answer, for all numbers. Package run as plain functions: the machine's state, and what each instruction makes of it. Types of which all parts are there, and what fits finds. What kind.arity answers. What slices.IndexFunc over types  -/
import Derived.Test.YtlohbilpimjmmaaGreatDoorTPure
import Derived.Test.YtlohbilpimjmmaaGreatDoorCtx
import Derived.Test.YtlohbilpimjmmaaGreatDoorCPure
set_option maxHeartbeats 0
set_option linter.unusedVariables false
set_option linter.unusedSimpArgs false
namespace Go.Proofs
open Go.cq
attribute [local irreducible] AK ai bh
def uh (n:Int):Bool:=decide (n >= -1152921504606846976)&&decide (n<=1152921504606846976)
def nq (n:Int):Int×Int:=if uh n=true then(if n<0 then -n else n,0)else(0,2)
def lH (n:Int):Int×Int:=if uh n=true then(n,0)else(0,11)
def s8 (a b:Int):Int×Int:=if uh a=true/\uh b=true then lH (a+b)else(0,2)
def jP (a b:Int):Int×Int:=if uh a=true/\uh b=true then lH (a-b)else(0,2)
def q8 (a b:Int):Int×Int:=if uh a=true/\uh b=true then lH (a*b)else(0,2)
def gD (a b:Int):Int×Int×Int:=if uh a=true/\uh b=true then(if b=0 then(0,0,6)else(a/b,a%b,0))else(0,0,2)
theorem Hf {a b q r:Int} (h:r+b*q=a) (U:0<=r) (G:0<b/\r<b\/b<0/\r < -b):a/b=q/\a%b=r:=by
 rcases G with ⟨G,h1⟩|⟨G,h1⟩
 ·exact(Int.ediv_emod_unique G).2 ⟨h,U,h1⟩
 ·have h2:r+(-b)*(-q)=a:=by rw[Int.neg_mul_neg];exact h
  obtain⟨V,Y⟩:=(Int.ediv_emod_unique (by omega:0 < -b)).2 ⟨h2,U,h1⟩;rw[Int.ediv_neg]at V;rw[Int.emod_neg]at Y;exact⟨bn,Y⟩
theorem L7 (a b:Int) (G:b≠0):a.tmod b+b*a.tdiv b=a/\(0<b -> -b<a.tmod b/\a.tmod b<b)/\(b<0->b<a.tmod b/\a.tmod b < -b) /\
  ((0<=a->0<=a.tmod b)/\(a<=0->a.tmod b<=0))/\(0<=a -> -a<=a.tdiv b/\a.tdiv b<=a)/\(a<=0->a<=a.tdiv b/\a.tdiv b <= -a):=by
 refine⟨Int.tmod_add_mul_tdiv a b,fun h=>?_,fun h=>?_,⟨fun h=>Int.tmod_nonneg b h,fun h=>?_⟩,fun h=>?_,fun h=>?_⟩
 ·refine⟨?_,Int.tmod_lt_of_pos a h⟩;have:=Int.tmod_lt_of_pos (-a) h;rw[Int.neg_tmod]at this;omega
 ·have h1:=Int.tmod_lt_of_pos a (by omega:0 < -b);have h2:=Int.tmod_lt_of_pos (-a) (by omega:0 < -b);rw[Int.neg_tmod]at h2;rw[Int.tmod_neg]at h1 h2;omega
 ·have:=Int.tmod_nonneg b (by omega:0 <= -a);rw[Int.neg_tmod]at this;omega
 ·have:=Int.natAbs_tdiv_le_natAbs a b;omega
 ·have:=Int.natAbs_tdiv_le_natAbs a b;omega
theorem lU {n:Int}:uh n=true ↔ -1152921504606846976<=n/\n<=1152921504606846976:=by simp[uh]
theorem je (n:Int):ag 73 [.int .i64 n] (.bool (uh n)):=by
 refine qn Tryz.func73 Tryz.call73 fun β hf=>?_
 repeat' (first|refine sz ?_|((first|refine zt ?_|refine zu ?_ ?_)<;>intro h<;>(fail_if_success (cases h;done))<;>rw[h]))
 all_goals (simp_all [uh];try omega)
abbrev two (x:Int×Int):CV := .gy [.int .i64 x.1,.int .i64 x.2]
abbrev three (x:Int×Int×Int):CV := .gy [.int .i64 x.1,.int .i64 x.2.1,.int .i64 x.2.2]
theorem Sj {a b c d:Int} (h:a=c) (E:b=d):CV.gy [.int .i64 a,.int .i64 b] = .gy [.int .i64 c,.int .i64 d]:=by rw[h,E]
theorem C4 {a b c d e f:Int} (h:a=d) (E:b=e) (Y:c=f):CV.gy [.int .i64 a,.int .i64 b,.int .i64 c] = .gy [.int .i64 d,.int .i64 e,.int .i64 f]:=by rw[h,E,Y]
theorem Ac (n:Int):ag 114 [.int .i64 n] (two (nq n)):=by
 refine qn Tryz.func114 Tryz.call114 fun β hf=>?_
 repeat' (first|refine sz ?_|(refine zc ?_ ?_<;>intro h<;>first|(cases h;done)|rw[h]|skip)|refine uC rfl (je n) ?_)
 ·simp_all [nq,two]
 ·have h1:uh n=true:=by simp_all
  have h2:=lU.1 h1;rw[gW bn bn];simp_all [nq,two]
 ·simp_all [nq,two];omega
theorem Bc (n:Int):ag 137 [.int .i64 n] (two (lH n)):=by
 refine qn Tryz.func137 Tryz.call137 fun β hf=>?_
 repeat' (first|refine sz ?_|(refine zc ?_ ?_<;>intro h<;>first|(cases h;done)|rw[h]|skip)|refine uC rfl (je n) ?_)
 all_goals simp_all [lH,two]
theorem FF (a b:Int):ag 116 [.int .i64 a,.int .i64 b] (two (s8 a b)):=by
 refine qn Tryz.func116 Tryz.call116 fun β hf=>?_
 repeat' (first|refine sz ?_|(refine zc ?_ ?_<;>intro h<;>first|(cases h;done)|rw[h]|skip)|refine uC rfl (je a) ?_|refine uC rfl (je b) ?_|refine uC rfl (Bc _) ?_|((first|refine zt ?_|refine zu ?_ ?_)<;>intro h<;>(fail_if_success (cases h;done))<;>rw[h]))
 all_goals try (simp_all [s8,two];done)
 ·rename_i h1;obtain⟨h1,h2⟩:uh a=true/\uh b=true:=by simp_all
  have V:=lU.1 h1;have Y:=lU.1 h2;rw[gW bn bn];simp[s8,two,h1,h2]
theorem vZ (a b:Int):ag 118 [.int .i64 a,.int .i64 b] (two (jP a b)):=by
 refine qn Tryz.func118 Tryz.call118 fun β hf=>?_
 repeat' (first|refine sz ?_|(refine zc ?_ ?_<;>intro h<;>first|(cases h;done)|rw[h]|skip)|refine uC rfl (je a) ?_|refine uC rfl (je b) ?_|refine uC rfl (Bc _) ?_|((first|refine zt ?_|refine zu ?_ ?_)<;>intro h<;>(fail_if_success (cases h;done))<;>rw[h]))
 all_goals try (simp_all [jP,two];done)
 ·rename_i h1;obtain⟨h1,h2⟩:uh a=true/\uh b=true:=by simp_all
  have V:=lU.1 h1;have Y:=lU.1 h2;rw[gW bn bn];simp[jP,two,h1,h2]
theorem s9 (a b:Int):ag 139 [.int .i64 a,.int .i64 b] (three (gD a b)):=by
 refine qn Tryz.func139 Tryz.call139 fun β hf=>?_
 repeat' (first|refine sz ?_|(refine zc ?_ ?_<;>intro h<;>first|(cases h;done)|rw[h]|skip)|refine uC rfl (je a) ?_|refine uC rfl (je b) ?_|(first|refine ai.quo Tryz.hX kn rfl rfl rfl rfl rfl rfl rfl (by simp_all) ?_|refine ai.rem Tryz.hX kn rfl rfl rfl rfl rfl rfl rfl (by simp_all) ?_)|((first|refine zt ?_|refine zu ?_ ?_)<;>intro h<;>(fail_if_success (cases h;done))<;>rw[h]))
 all_goals try (simp_all [gD,three];done)
 all_goals
  obtain⟨h1,h2,V⟩:uh a=true/\uh b=true/\b≠0:=by simp_all
  have W:=lU.1 h1;have p:=lU.1 h2;obtain⟨C,K,T,⟨S,Q⟩,e6,e7⟩:=L7 a b V;have P : -1152921504606846976<=a.tdiv b/\a.tdiv b<=1152921504606846976:=by omega
  rw[show gD a b=(a/b,a%b,0)from by simp[gD,h1,h2,V]]
 ·have B:a.tmod b<0:=by simp_all
  have U:b>0:=by simp_all
  obtain⟨A,Y⟩:=Hf (a:=a) (b:=b) (q:=a.tdiv b-1) (r:=a.tmod b+b) (by rw[Int.mul_sub];omega) bn bn;rw[gW (n:=a.tdiv b) bn bn,gW bn bn,gW bn bn];exact C4 A.symm Y.symm rfl
 ·have B:a.tmod b<0:=by simp_all
  have U:b<0:=by simp_all;omega
  obtain⟨A,Y⟩:=Hf (a:=a) (b:=b) (q:=a.tdiv b+1) (r:=a.tmod b-b) (by rw[Int.mul_add];omega) bn bn;rw[gW (n:=a.tdiv b) bn bn,gW bn bn,gW bn bn];exact C4 A.symm Y.symm rfl
 ·have B:a.tmod b>=0:=by simp_all
  obtain⟨A,Y⟩:=Hf (a:=a) (b:=b) (q:=a.tdiv b) (r:=a.tmod b) bn bn bn;rw[gW bn bn];exact C4 A.symm Y.symm rfl
end Go.Proofs
namespace Go.Proofs
open Go.cq
def xA:Vl->Int | .mk _ _ a _ _ _ _=>a
def JE:Vl->List Ty | .mk _ _ _ _ _ t _=>t
def rZ:Vl->List Nd | .mk _ _ _ _ _ _ c=>c
theorem Xl:∀v:Vl,bM v = .agg [aF (vK v),aF (vN v),aF (xA v),.str (vS v),.sl 7 (aa (eC v)),.sl 2 (aq (JE v)),.sl 5 (aI (rZ v))]
 | .mk _ _ _ _ _ _ _=>rfl
structure fO where
 code:List Nd
 pos:Nat
 fin:Int
 aside:List Vl
structure bT where
 self:Int
 gO:Int
 gP:Int
 balance:Int
 st:List Vl
 fr:List fO
 gX:Int
 used:Int
 bE:Int
 said:Vl
def gb:Nat->List Vl->Option (List Vl×List Vl)
 | 0,s=>some ([],s)
 | _+1,[]=>none
 | n+1,v::s=>match gb n s with
  | some (l,r)=>some (v::l,r)
  | none=>none
def lI:List Vl->List Vl->Int×List Vl
 | [],s=>(0,s)
 | v::l,s=>if lB v>200 then(13,s)else lI l (v::s)
def aO (k n:Int):Vl := .mk k n 0 [] [] [] []
def iu (b:Bool):Vl:=aO 2 (if b then 1 else 0)
def cB (l:List Vl):Vl := .mk 9 0 0 [] l [] []
def bz (a b:Vl):Vl := .mk 11 0 0 [] [a,b] [] []
def bO (p:Int):Nat :=
 if p∈[41,43,45,54,56,61,66,89,90,91,92]then 0
 else if p∈[42,46,57,62,67,69,70,71,72,73,78,79,80,84,86]then 2
 else if p∈[63,88]then 3 else 1
def ofM (p a b:Int):Int:=if a=5\/b=5 then 5 else if a=4/\b=4/\p≠70 then 4 else 3
def cg:List Vl->Vl->Nat
 | [],_=>0
 | x::l,k=>if dx (lJ x) k<0 then cg l k+1 else 0
def eM (l:List Vl) (k:Vl):Bool:=match l[cg l k]? with
 | some x=>decide (dx (lJ x) k=0)
 | none=>false
abbrev MR:=Int×bT
def bl (S:bT) (l:List Vl):MR:=((lI l S.st).1,{S with st:=(lI l S.st).2})
def cO (S:bT) (H:List Nd) (fin:Int) (u:List Vl):bT:={S with fr:=⟨H,0,fin,u⟩::S.fr}
def v8 (S:bT) (H:List Nd) (fin:Int) (u:List Vl):bT:={S with fr:=⟨H,H.length,fin,u⟩::S.fr}
def aN (args:List Nd) (i:Nat):Nat:=(I7 (args.getD i sM)).toNat
def aC (args:List Nd) (i:Nat):List Nd:=cF (args.getD i sM)
def aT (args:List Nd) (i:Nat):Ty:=(aZ (args.getD i sM)).1
def lV (l:List Vl) (i:Nat):Vl:=l.getD i oL
def FG (P:Int) (args:List Nd) (l:List Vl) (S:bT):MR :=
 if P=42 then bl S [lV l 0,lV l 1]
 else if P=41 then bl S [lV S.st (aN args 0-1)]
 else if P=43 then(0,{S with st:=lV S.st (aN args 0)::(S.st.take (aN args 0)++S.st.drop (aN args 0+1))})
 else if P=44 then(0,{S with st:=S.st.take (aN args 0)++lV l 0::S.st.drop (aN args 0)})
 else(0,S)
def Ad (P:Int) (args:List Nd) (l:List Vl) (S:bT):MR :=
 if P=45 then bl S [(iC (aT args 0) (args.getD 1 sM)).1]
 else if P=46 then bl S [bz (lV l 0) (lV l 1)]
 else if P=50\/P=51 then bl S [.mk 12 (P-50) 0 [] l [] []]
 else if P=53 then bl S [cB [lV l 0]]
 else if P=54 then bl S [cB []]
 else if P=56 then bl S [.mk 10 0 0 [] [] [] []]
 else if P=47 then bl S [lV (eC (lV l 0)) 1,lV (eC (lV l 0)) 0]
 else if P=48 then bl S [lV (eC (lV l 0)) 0]
 else bl S [lV (eC (lV l 0)) 1]
def r8 (P:Int) (args:List Nd) (l:List Vl) (S:bT):MR :=
 if P=52 then bl (cO S (aC args (vN (lV l 0)).toNat) 0 []) [lV (eC (lV l 0)) 0]
 else if P=55 then bl (cO S (aC args (min (eC (lV l 0)).length 1)) 0 []) (eC (lV l 0))
 else if P=58 then(match eC (lV l 0)with
  | []=>(0,cO S (aC args 1) 0 [])
  | x::xs=>bl (cO S (aC args 0) 0 []) [.mk 10 0 0 [] xs [] [],x])
 else if P=60 then(0,v8 S (aC args 0) 3 (eC (lV l 0)))
 else if P=64 then(0,cO S (aC args (1-(vN (lV l 0)).toNat)) 0 [])
 else if P=65 then(0,{v8 S (aC args 0) 4 []with st:=lV l 0::S.st})
 else if P=68 then(0,cO S (aC args 0) 1 [lV l 0])
 else if P=66 then bl S [.mk 14 0 0 [] [] [aT args 0,aT args 1] (aC args 2)]
 else(0,{cO S (rZ (lV l 1)) 2 S.st.reverse with st:=[lV l 0]})
def Ae (P:Int) (args:List Nd) (l:List Vl) (S:bT):MR :=
 if P=57 then(if 24<=(eC (lV l 1)).length then(13,S)else bl S [.mk 10 0 0 [] (lV l 0::eC (lV l 1)) [] []])
 else if P=59 then bl S [aO 4 ((vS (lV l 0)).length+(eC (lV l 0)).length:Nat)]
 else if P=61 then bl S [.mk 13 0 0 [] [] [] []]
 else if P=62 then(if eM (eC (lV l 1)) (lV l 0)=true then bl S [cB [lV (eC (lV (eC (lV l 1)) (cg (eC (lV l 1)) (lV l 0)))) 1]]else bl S [cB []])
 else
  let m:=eC (lV l 2);let i:=cg m (lV l 0);let x:=if eM m (lV l 0)=true then m.take i++m.drop (i+1)else m
  match eC (lV l 1)with
  | []=>bl S [.mk 13 0 0 [] x [] []]
  | y::_=>if 24<=x.length then(13,S)else bl S [.mk 13 0 0 [] (x.take i++bz (lV l 0) y::x.drop i) [] []]
def v9 (P:Int) (l:List Vl) (S:bT):MR :=
 if P=93 then bl S [aO 4 (nq (vN (lV l 0))).1]
 else if P=94 then(if vN (lV l 0)<0 then bl S [cB []]else bl S [cB [aO 4 (vN (lV l 0))]])
 else if P=95 then bl S [aO 3 (vN (lV l 0))]
 else
  let a:=lV l 0;let b:=lV l 1;let k:=ofM P (vK a) (vK b)
  if P=69 then(if(s8 (vN a) (vN b)).2≠0 then((s8 (vN a) (vN b)).2,S)else bl S [aO k (s8 (vN a) (vN b)).1])
  else if P=71 then(if(q8 (vN a) (vN b)).2≠0 then((q8 (vN a) (vN b)).2,S)else bl S [aO k (q8 (vN a) (vN b)).1])
  else if P=70 then(if(jP (vN a) (vN b)).2≠0 then((jP (vN a) (vN b)).2,S)
   else if k=5 then(if(jP (vN a) (vN b)).1<0 then bl S [cB []]else bl S [cB [aO 5 (jP (vN a) (vN b)).1]])
   else bl S [aO k (jP (vN a) (vN b)).1])
  else if(gD (vN a) (vN b)).2.2≠0 then bl S [cB []]
  else bl S [cB [bz (aO (if k=5/\vK b=5 then 4 else k) (gD (vN a) (vN b)).1) (aO (if k=5 then 5 else 4) (gD (vN a) (vN b)).2.1)]]
def FH (P:Int) (args:List Nd) (l:List Vl) (S:bT):MR :=
 let a:=lV l 0
 if P=73 then bl S [aO 3 (dx a (lV l 1))]
 else if P=74\/P=77 then bl S [iu (decide (vN a=0))]
 else if P=75 then bl S [iu (decide (vN a<0))]
 else if P=76 then bl S [iu (decide (vN a>0))]
 else if P=78 then bl S [iu (decide (vN a=1/\vN (lV l 1)=1))]
 else if P=79 then bl S [iu (decide (vN a=1\/vN (lV l 1)=1))]
 else if P=80 then(if 200<(vS a).length+(vS (lV l 1)).length then(13,S)else bl S [.mk 6 0 0 (vS a++vS (lV l 1)) [] [] []])
 else if P=81 then(if(tU a).2≠0 then(13,S)else bl S [.mk 6 0 0 (tU a).1 [] [] []])
 else if P=82 then(if(gA (aT args 0) (vS a)).2≠0 then bl S [cB []]else bl S [cB [(gA (aT args 0) (vS a)).1]])
 else(10,{S with said:=a})
def uN (P:Int) (args:List Nd) (l:List Vl) (S:bT):MR :=
 let a:=lV l 0
 if P=89 then bl S [aO 7 S.self]
 else if P=90 then bl S [aO 7 S.gO]
 else if P=91 then bl S [aO 5 S.gP]
 else if P=92 then bl S [aO 5 S.balance]
 else if P=84 then(if vN (lV l 1)=0 then bl S [cB []]else if S.bE>bP-vN (lV l 1)then(11,S)
  else bl {S with bE:=S.bE+vN (lV l 1)} [cB [.mk 15 (vN (lV l 1)) S.self [] [a] [] []]])
 else if P=88 then bl S [.mk 8 (vN (lV l 1)) (vN (lV l 2)) [] [a] [aT args 0] []]
 else if P=85 then bl S [a,bz (aO 7 (xA a)) (bz (lV (eC a) 0) (aO 4 (vN a)))]
 else if P=86 then
  let n:=vN (lV (eC (lV l 1)) 0);let m:=vN (lV (eC (lV l 1)) 1)
  if n<1\/m<1\/n+m≠vN a then bl S [cB []]
  else bl S [cB [bz (.mk (vK a) n (xA a) (vS a) (eC a) (JE a) (rZ a)) (.mk (vK a) m (xA a) (vS a) (eC a) (JE a) (rZ a))]]
 else
  let x:=lV (eC a) 0;let y:=lV (eC a) 1
  if xA x≠xA y\/dx (lV (eC x) 0) (lV (eC y) 0)≠0 then bl S [cB []]
  else if vN x>bP-vN y then(11,S)
  else bl S [cB [.mk (vK x) (vN x+vN y) (xA x) (vS x) (eC x) (JE x) (rZ x)]]
def iR (P:Int) (args:List Nd) (l:List Vl) (S:bT):MR :=
 if P<=44 then FG P args l S
 else if P<=56/\P≠52/\P≠55 then Ad P args l S
 else if P=52\/P=55\/P=58\/P=60\/64<=P/\P<=68 then r8 P args l S
 else if P<=63 then Ae P args l S
 else if P<=72\/P>=93 then v9 P l S
 else if P<=83 then FH P args l S
 else uN P args l S
end Go.Proofs
namespace Go.cq
mutual
def Bd:Ty->Bool
 | .mk T args=>decide (arity T=args.length)&&xI args
def xI:List Ty->Bool
 | []=>true
 | t::l=>Bd t&&xI l
end
mutual
theorem C5:∀(t:Ty) (d n:Int),n<=300->(eN t d n).1=true->Bd t=true/\(eN t d n).2=n+bA t
 | .mk T args,d,n,Y,h=>by
  simp only[eN]at h ⊢;by_cases c:d>24\/n+1>300\/arity T≠args.length
  ·rw[if_pos c]at h;simp at h
  rw[if_neg c]at h ⊢;have S:=Be args (d+1) (n+1) bn;rcases I:dL args (d+1) (n+1)with ⟨b,m⟩
  rw[I]at h S;cases b with
  | false=>simp at h
  | true =>
   obtain⟨W,M⟩:=S rfl;simp only at M ⊢;refine⟨?_,?_⟩
   ·have:arity T=args.length:=by omega
    simp[Bd,this,W]
   ·simp only[bA];omega
theorem Be:∀(l:List Ty) (d n:Int),n<=300->(dL l d n).1=true->xI l=true/\(dL l d n).2=n+aY l
 | [],d,n,Y,h=>by simp[dL,xI,aY]
 | t::l,d,n,Y,h=>by
  simp only[dL]at h ⊢;have S:=C5 t d n Y;have J:=rL t d n Y;rcases I:eN t d n with ⟨b,m⟩
  rw[I]at h S J;cases b with
  | false=>simp at h
  | true =>
   obtain⟨W,M⟩:=S rfl;have V:=J.2.2 rfl;simp only at h M V ⊢;obtain⟨U,Q⟩:=Be l d m V h;refine⟨by simp[xI,W,U],?_⟩;simp only[aY];omega
end
def lX (t:Ty):Prop:=Bd t=true/\bA t<=300
theorem cL {t:Ty} (h:bw t=true):lX t:=by
 obtain⟨h1,h2⟩:=C5 t 1 0 bn h;have V:=(rL t 1 0 bn).2.2 h;exact⟨h1,bn⟩
theorem C6:∀{l:List Ty} {x:Ty},xI l=true->x∈l->Bd x=true
 | t::l,x,h,O=>by
  simp only[xI,aai]at h;rcases List.mem_cons.1 O with rfl|O
  ·exact h.1
  ·exact C6 h.2 O
theorem r9 {T:Int} {l:List Ty} (h:lX (.mk T l)):arity T=l.length/\∀x∈l,lX x:=by
 obtain⟨h1,h2⟩:=h;simp only[Bd,aai,decide_eq_true_eq,bA]at h1 h2;exact⟨h1.1,fun x O=>⟨C6 h1.2 O,by have:=cz O;omega⟩⟩
theorem eV {T:Int} {l:List Ty} (h:lX (.mk T l)) (u:arity T=1):∃x,l=[x]/\lX x:=by
 obtain⟨h1,h2⟩:=r9 h;rcases l with _|⟨x,_|⟨y,l⟩⟩
 ·simp at h1;omega
 ·simp_all
 ·simp at h1;omega
theorem eL {T:Int} {l:List Ty} (h:lX (.mk T l)) (u:arity T=2):∃x y,l=[x,y]/\lX x/\lX y:=by
 obtain⟨h1,h2⟩:=r9 h;rcases l with _|⟨x,_|⟨y,_|⟨z,l⟩⟩⟩
 ·simp at h1;omega
 ·simp at h1;omega
 ·grind
 ·simp at h1;omega
theorem yG {T U:Int} {l:List Ty} (h:lX (.mk T l)) (u:arity T=arity U):lX (.mk U l):=by
 obtain⟨h1,h2⟩:=h;simp only[Bd,bA,u]at h1 h2;exact⟨by simpa[Bd]using h1,by simpa[bA]using h2⟩
def qx (s:List Ty):Prop:=∀t∈s,lX t
theorem od {t:Ty} {s:List Ty} (h:qx (t::s)):lX t/\qx s:=⟨h t (by simp),fun x O=>h x (by simp[O])⟩
theorem kT {t:Ty} {s:List Ty} (h1:lX t) (h2:qx s):qx (t::s):=fun x O=>by
 rcases List.mem_cons.1 O with rfl|O
 ·exact h1
 ·exact h2 x O
theorem N5:qx []:=fun x O=>by simp at O
theorem uz {s:List Ty} (h:s.all bw=true):qx s:=fun t M=>cL (List.all_eq_true.1 h t M)
theorem ku {n:Nd} (h:(aZ n).2=0):bw (aZ n).1=true:=by
 unfold aZ at h ⊢;split at h
 ·grind
 ·simp at h
theorem cY {P:Int} {args:List Nd} {B:List Ty} (h:bN P args=some B) (Y:fN P=[]):args=[]/\B=[]:=by
 unfold bN at h;rw[Y]at h;split at h
 ·simp at h
 ·rename_i c;rcases args with _|⟨x,l⟩
  ·simp[jc]at h;exact⟨rfl,h⟩
  ·simp at c
theorem GQ {P:Int} {args:List Nd} {B:List Ty} (h:bN P args=some B) (Y:fN P=[110]):∃N p S xs,args=[.mk 0 N p S xs]/\0<=N/\N<=40/\B=[]:=by
 unfold bN at h;rw[Y]at h;split at h
 ·simp at h
 ·rename_i c;rcases args with _|⟨⟨k,N,p,S,xs⟩,_|⟨y,l⟩⟩
  ·simp at c
  ·simp[jc]at h;obtain⟨⟨rfl,h1,h2⟩,V⟩:=h;exact⟨N,p,S,xs,rfl,h1,h2,V⟩
  ·simp at c
theorem vV {P:Int} {args:List Nd} {B:List Ty} (h:bN P args=some B) (Y:fN P=[116]):∃x t,args=[x]/\B=[t]/\lX t:=by
 unfold bN at h;rw[Y]at h;split at h
 ·simp at h
 ·rename_i c;rcases args with _|⟨⟨k,N,p,S,xs⟩,_|⟨y,l⟩⟩
  ·simp at c
  ·simp[jc]at h;exact⟨_,_,rfl,h.2.symm,cL (ku h.1)⟩
  ·simp at c
theorem RJ {P:Int} {args:List Nd} {B:List Ty} (h:bN P args=some B) (Y:fN P=[116,118]):∃x y t,args=[x,y]/\B=[t]/\lX t:=by
 unfold bN at h;rw[Y]at h;split at h
 ·simp at h
 ·rename_i c;rcases args with _|⟨⟨k,N,p,S,xs⟩,_|⟨⟨k',V,U,S',W⟩,_|⟨z,l⟩⟩⟩
  ·simp at c
  ·simp at c
  ·simp[jc]at h;exact⟨_,_,_,rfl,h.2.symm,cL (ku h.1)⟩
  ·simp at c
theorem Rp {P:Int} {args:List Nd} {B:List Ty} (h:bN P args=some B) (Y:fN P=[116,116]):∃x y t u,args=[x,y]/\B=[t,u]/\lX t/\lX u:=by
 unfold bN at h;rw[Y]at h;split at h
 ·simp at h
 ·rename_i c;rcases args with _|⟨⟨k,N,p,S,xs⟩,_|⟨⟨k',V,U,S',W⟩,_|⟨z,l⟩⟩⟩
  ·simp at c
  ·simp at c
  ·simp[jc]at h;exact⟨_,_,_,_,rfl,h.2.2.symm,cL (ku h.1),cL (ku h.2.1)⟩
  ·simp at c
theorem GX {P:Int} {args:List Nd} {B:List Ty} (h:bN P args=some B) (Y:fN P=[99]):∃N p S xs,args=[.mk 3 N p S xs]/\B=[]:=by
 unfold bN at h;rw[Y]at h;split at h
 ·simp at h
 ·rename_i c;rcases args with _|⟨⟨k,N,p,S,xs⟩,_|⟨y,l⟩⟩
  ·simp at c
  ·simp[jc]at h;obtain⟨rfl,V⟩:=h;exact⟨N,p,S,xs,rfl,V⟩
  ·simp at c
theorem yF {P:Int} {args:List Nd} {B:List Ty} (h:bN P args=some B) (G:fN P=[99,99]):∃N p S xs W V S' Y,args=[.mk 3 N p S xs,.mk 3 W V S' Y]/\B=[]:=by
 unfold bN at h;rw[G]at h;split at h
 ·simp at h
 ·rename_i c;rcases args with _|⟨⟨k,N,p,S,xs⟩,_|⟨⟨k',W,V,S',Y⟩,_|⟨z,l⟩⟩⟩
  ·simp at c
  ·simp at c
  ·simp[jc]at h;obtain⟨rfl,rfl,U⟩:=h;exact⟨N,p,S,xs,W,V,S',Y,rfl,U⟩
  ·simp at c
theorem Fv {P:Int} {args:List Nd} {B:List Ty} (h:bN P args=some B) (G:fN P=[116,116,99]):∃x y N p S xs t u,args=[x,y,.mk 3 N p S xs]/\B=[t,u]/\lX t/\lX u:=by
 unfold bN at h;rw[G]at h;split at h
 ·simp at h
 ·rename_i c;rcases args with _|⟨⟨k,N,p,S,xs⟩,_|⟨⟨k',O,M,S',W⟩,_|⟨⟨D,V,U,T,Y⟩,_|⟨w,l⟩⟩⟩⟩
  ·simp at c
  ·simp at c
  ·simp at c
  ·simp[jc]at h;obtain⟨h1,h2,rfl,Q⟩:=h;exact⟨_,_,V,U,T,Y,_,_,rfl,Q.symm,cL (ku h1),cL (ku h2)⟩
  ·simp at c
theorem A4 (x:Nd) (l:List Nd):bf (x::l)=(fun s=>cA (cF x) (s,false))::bf l:=by
 cases x;simp only[bf,cF]
theorem Ok (e:Int):qx (aP e).1.1:=fun x O=>by simp[aP]at O
theorem jU:∀(l:List Nd) (o:List Ty×Bool),qx o.1->qx (cA l o).1.1/\(cA l o).1.1.length<=o.1.length+40
 | [],o,h=>by simp only[cA];exact⟨h,bn⟩
 | n::l,o,h=>by
  simp only[cA];split
  ·exact⟨Ok _,by simp[aP]⟩
  ·split
   ·exact⟨Ok _,by simp[aP]⟩
   ·rename_i h1 h2;obtain⟨u,H,p,Y⟩:=rQ (r:=fq n o.1) Ab;have S:=jU l (mj (fq n o.1)).1;rw[H]at S ⊢;simp only at S ⊢;refine⟨(S (uz Y)).1,?_⟩;have:=JF l (fq n o.1).1 p;omega
where
 JF:∀(l:List Nd) (o:List Ty×Bool),o.1.length<=40->(cA l o).1.1.length<=40
 | [],o,h=>by simp only[cA];exact h
 | n::l,o,h=>by
  simp only[cA];split
  ·simp[aP]
  ·split
   ·simp[aP]
   ·rename_i h1 h2;obtain⟨a1,a2,a3,a4⟩:=rQ (r:=fq n o.1) Ab;rw[a2];exact JF l _ a3
end Go.cq
namespace Go.Proofs
open Go.cq
attribute [local irreducible] AK ai bh
theorem um (t:Int):ag 45 [.int .i64 t] (.int .i64 (arity t)):=by
 refine qn Tryz.func45 Tryz.call45 fun β hf=>?_
 repeat' (first|refine sz ?_|(refine zc ?_ ?_<;>intro h<;>first|(cases h;done)|rw[h]|skip))
 all_goals simp_all [arity]
end Go.Proofs
namespace Go.Proofs
open Go.cq
attribute [local irreducible] AK ai bh
def idxOf {α:Type} (p:α->Bool):List α->Int
 | [] => -1
 | x::l=>if p x then 0 else(match idxOf p l with
  | -1 => -1
  | n=>n+1)
theorem qE {α:Type} (p:α->Bool):∀(l:List α),(idxOf p l = -1/\∀x∈l,p x=false)\/∃(i:Nat) (x:α),l[i]?=some x/\p x=true/\(∀(j:Nat) y,j<i->l[j]?=some y->p y=false)/\idxOf p l=i
 | [] => .inl ⟨rfl,c9⟩
 | x::l=>by
  by_cases O:p x
  ·right;exact⟨0,x,c9,O,c9,by simp[idxOf,O]⟩
  ·rcases qE p l with ⟨h1,h2⟩|⟨i,y,h1,h2,V,Y⟩
   ·left;exact⟨by simp[idxOf,O,h1],by simpa[O]using h2⟩
   ·right;refine⟨i+1,y,Um,h2,?_,?_⟩
    ·intro j z U W;cases j with
     | zero=>simp at W;subst W;simpa using O
     | succ j=>simp at W;exact V j z bn W
    ·have:idxOf p (x::l)=(match idxOf p l with | -1 => -1|n=>n+1):=by simp[idxOf,O]
     rw[this,Y];split
     ·omega
     ·rfl
theorem uv {α:Type} (p:α->Bool) (l:List α) (i:Nat) (x:α) (O:l[i]?=some x) (h:p x=true) (G:∀(j:Nat) y,j<i->l[j]?=some y->p y=false):idxOf p l=i:=by
 rcases qE p l with ⟨h1,h2⟩|⟨k,y,h1,h2,V,Y⟩
 ·have:=h2 x (aaw O);rw[h]at this;simp at this
 ·rw[Y];rcases Nat.lt_trichotomy i k with C|rfl|C
  ·have:=V i x C O;rw[h]at this;simp at this
  ·rfl
  ·have:=G k y C h1;rw[h2]at this;simp at this
theorem xB {α:Type} (p:α->Bool) (l:List α) (h:∀(j:Nat) y,l[j]?=some y->p y=false):idxOf p l = -1:=by
 rcases qE p l with ⟨h1,_⟩|⟨k,y,h1,h2,_⟩
 ·exact h1
 ·have:=h k y h1;rw[h2]at this;simp at this
theorem zT {α:Type} (p:α->Bool) (l:List α):decide (idxOf p l>=0)=l.any p:=by
 rcases qE p l with ⟨h1,h2⟩|⟨k,y,h1,h2,V,Y⟩
 ·rw[h1];symm;simp;intro x O;simpa using h2 x O
 ·rw[Y];symm;simp;exact⟨y,aaw h1,h2⟩
set_option maxHeartbeats 1000000 in
theorem EP (l:List Ty) (p:Ty->Bool) (f:FuncId) (caps:List CV) (hp:∀x∈l,ag f (eB x::caps) (.bool (p x))) (hlen:l.length<=1099511627776) :
  ag 124 [.sl 2 (aq l),.rM f caps] (.int .i64 (idxOf p l)):=by
 refine qn Tryz.func124 Tryz.call124 fun β hf=>?_;refine AK.LM Tryz.hX Tryz.mixed 300 rfl ?_;refine AK.eK (α:=Nat) (fun i=>i<=l.length/\∀(j:Nat) x,j<i->l[j]?=some x->p x=false) (fun i=>l.length-i)
  (fun i=>[(8,.c (.int .i64 i)),(7,.c (.int .i64 (aq l).length)),(0,.c (.sl 2 (aq l))),(1,.c (.rM f caps))]) (fun _=>[]) (fun _=>[]) [] 0
  ⟨bn,by intro j x h;omega⟩ ⟨.inl rfl,.inl rfl,.inl rfl,.inl rfl,trivial⟩ trivial trivial rfl rfl rfl ?_
 rintro i ⟨hi,hno⟩ ih
 repeat' (first|refine sz ?_|(refine zc ?_ ?_<;>intro h<;>first|(cases h;done)|rw[h]|skip))
 ·have hlt:i<l.length:=by simpa[aQ]using h
  obtain⟨⟨T,args⟩,hx⟩:∃x,l[i]?=some x:=⟨l[i],by simp[hlt]⟩
  refine ai.index Tryz.hX rfl rfl rfl rfl rfl rfl rfl rfl rfl rfl i rfl (by rw[xJ,hx];rfl) rfl ?_
  repeat' (first|refine sz ?_|(refine zc ?_ ?_<;>intro h<;>first|(cases h;done)|rw[h]|skip)|refine uC rfl (hp ⟨T,args⟩ (aaw hx)) ?_)
  ·rw[uv p l i ⟨T,args⟩ hx h hno]
  ·have Af:=h
   have YQ:=ih (i+1) ⟨bn,fun j x hj U9=>by
    by_cases hji:j=i
    ·subst hji;rw[hx]at U9;simp at U9;subst U9;exact Af
    ·exact hno j x bn U9⟩ bn
   refine AK.again YQ ⟨.inl ?_,.inl rfl,.inl rfl,.inl rfl,trivial⟩ trivial trivial rfl rfl rfl;rw[gW bn bn];rfl
 ·have hge:l.length<=i:=by simpa[aQ]using h
  rw[xB p l fun j y hy=>hno j y Q3 hy]
end Go.Proofs
namespace Go.Proofs
open Go.cq
attribute [local irreducible] AK ai bh
theorem nE (l:List Ty) (p:Ty->Bool) (f:FuncId) (W:List CV) (A:∀x∈l,ag f (eB x::W) (.bool (p x))) (Y:l.length<=1099511627776) :
  ag 90 [.sl 2 (aq l),.rM f W] (.bool (l.any p)):=by
 refine qn Tryz.func90 Tryz.call90 fun β hf=>?_
 repeat' (first|refine sz ?_|refine uC rfl (EP l p f W A Y) ?_)
 rw[zT]
theorem FI (p:Int->Bool):∀(l:List Ty),(!(l.any fun x => !sL p x))=oa p l
 | []=>rfl
 | t::l=>by simp only[oa,<- FI p l,List.any_cons];cases sL p t<;>simp
set_option maxHeartbeats 1000000 in
theorem Ag (p:Int->Bool) (f:FuncId) (caps:List CV) (hp:∀n:Int,ag f (.int .i64 n::caps) (.bool (p n))) :
  ∀(t:Ty),bA t<=1099511627776->ag 58 [eB t,.rM f caps] (.bool (sL p t))
 | .mk T args,ht=>by
  simp only[bA]at ht;have IQ:=gn args;have hin:∀x∈args,ag 91 (eB x::[.ip [.rM f caps]]) (.bool (!sL p x)):=by
   intro x hx;have BK:=Ag p f caps hp x (by have:=cz hx;omega);obtain⟨T',args'⟩:=x;refine qn Tryz.func91 Tryz.call91 fun β hf=>?_
   repeat' (first|refine sz ?_|refine uC rfl BK ?_)
   rfl
  refine qn Tryz.func58 Tryz.call58 fun β hf=>?_;refine AK.seq ?_;refine AK.region Tryz.mixed rfl ?_
  repeat' (first|refine so ?_|((first|refine zt ?_|refine zu ?_ ?_)<;>intro h<;>(fail_if_success (cases h;done))<;>rw[h]))
  refine AK.freeze 3 rfl rfl rfl rfl ?_
  repeat' (first|refine sz ?_|refine uC rfl (hp T) ?_|refine uC rfl (nE args (fun x => !sL p x) _ _ hin bn) ?_|((first|refine zt ?_|refine zu ?_ ?_)<;>intro h<;>(fail_if_success (cases h;done))<;>rw[h]))
  ·simp only[sL,<- FI,h,Bool.true_and,cond_true]
  ·simp only[sL,h,Bool.false_and]
termination_by t=>SizeOf.sizeOf t
decreasing_by
 have:=List.sizeOf_lt_of_mem hx;simp at this ⊢;omega
end Go.Proofs
namespace Go.Proofs
open Go.cq
attribute [local irreducible] AK ai bh
theorem dV {α:Type} {l:List α} {i:Nat} {x:α} (h:l[i]?=some x):l.drop i=x::l.drop (i+1):=by
 obtain⟨h1,h2⟩:=List.getElem?_eq_some_iff.1 h;rw[List.drop_eq_getElem_cons h1,h2]
theorem bB {α:Type} {l:List α} {i:Nat} {x:α} (h:l[i]?=some x):i<l.length:=(List.getElem?_eq_some_iff.1 h).1
theorem fT {α:Type} (l:List α) (i:Nat) (W:i<=l.length):(∃x,l[i]?=some x/\x∈l)\/i=l.length:=by
 rcases Nat.lt_or_ge i l.length with h|h
 ·exact .inl ⟨l[i],oe,List.getElem_mem h⟩
 ·right;omega
theorem fH {l:List Ty} {i:Nat} {x:Ty} (h:l[i]?=some x):(aq l)[i]?=some (eB x):=by rw[xJ,h];rfl
theorem dec_lt {a b:Int} (h:a<b):decide (a<b)=true:=aam h
theorem GM {a b:Int} (h:b<=a):decide (a<b)=false:=aan (by omega)
theorem Cu {l:List Ty} {i:Nat} {x:Ty} (h:l[i]?=some x):decide (((i:Nat):Int)<(((aq l).length:Nat):Int))=true:=dec_lt (by have:=bB h;rw[aQ];omega)
theorem yu {l:List Ty} {i:Nat} (h:i=l.length):decide (((i:Nat):Int)<(((aq l).length:Nat):Int))=false:=GM (by rw[aQ];omega)
theorem JG (n:Int):ag 59 [.int .i64 n] (.bool (yS n)):=by
 refine qn Tryz.func59 Tryz.call59 fun β hf=>?_
 repeat' (first|refine sz ?_|refine uC rfl (um n) ?_|((first|refine zt ?_|refine zu ?_ ?_)<;>intro h<;>(fail_if_success (cases h;done))<;>rw[h]))
 all_goals simp_all [yS]
theorem JH (n:Int):ag 97 [.int .i64 n] (.bool (rO n)):=by
 refine qn Tryz.func97 Tryz.call97 fun β hf=>?_
 repeat' (first|refine sz ?_|((first|refine zt ?_|refine zu ?_ ?_)<;>intro h<;>(fail_if_success (cases h;done))<;>rw[h]))
 all_goals simp_all [rO]
theorem kO (t:Ty) (M:bA t<=1099511627776):ag 46 [eB t] (.bool (fC t)):=by
 have hq:=Ag yS 59 [] JG t M;obtain⟨T,args⟩:=t;refine qn Tryz.func46 Tryz.call46 fun β hf=>?_
 repeat' (first|refine sz ?_|refine uC rfl hq ?_)
 rfl
theorem mG (t:Ty) (M:bA t<=1099511627776):ag 64 [eB t] (.bool (ga t)):=by
 have hq:=Ag rO 97 [] JH t M;obtain⟨T,args⟩:=t;refine qn Tryz.func64 Tryz.call64 fun β hf=>?_
 repeat' (first|refine sz ?_|refine uC rfl hq ?_)
 rfl
theorem xK (p:Int->Bool):∀(l:List Ty),(!(l.any fun x => !C7 p x))=Hg p l
 | []=>rfl
 | t::l=>by simp only[Hg,<- xK p l,List.any_cons];cases C7 p t<;>simp
set_option maxHeartbeats 1000000 in
theorem sN:∀(t:Ty),bA t<=1099511627776->ag 93 [eB t] (.bool (lz t))
 | .mk T args,ht=>by
  simp only[bA]at ht;have IQ:=gn args;have hin:∀x∈args,ag 125 (eB x::[]) (.bool (!lz x)):=by
   intro x hx;have BK:=sN x (by have:=cz hx;omega);obtain⟨T',args'⟩:=x;refine qn Tryz.func125 Tryz.call125 fun β hf=>?_
   repeat' (first|refine sz ?_|refine uC rfl BK ?_)
   rfl
  have hq:=nE args (fun x => !lz x) 125 [] hin bn;refine qn Tryz.func93 Tryz.call93 fun β hf=>?_
  repeat' (first|refine sz ?_|(refine zc ?_ ?_<;>intro h<;>first|(cases h;done)|rw[h]|skip)|refine uC rfl hq ?_|((first|refine zt ?_|refine zu ?_ ?_)<;>intro h<;>(fail_if_success (cases h;done))<;>rw[h]))
  all_goals
   have ha:=xK Sk args;simp only[lz]at *;simp only[C7,<- ha,Sk];simp_all
termination_by t=>SizeOf.sizeOf t
decreasing_by
 have:=List.sizeOf_lt_of_mem hx;simp at this ⊢;omega
set_option maxHeartbeats 1000000 in
theorem yE:∀(t:Ty),bA t<=1099511627776->ag 102 [eB t] (.bool (ju t))
 | .mk T args,ht=>by
  simp only[bA]at ht;have IQ:=gn args;have hin:∀x∈args,ag 130 (eB x::[]) (.bool (!ju x)):=by
   intro x hx;have BK:=yE x (by have:=cz hx;omega);obtain⟨T',args'⟩:=x;refine qn Tryz.func130 Tryz.call130 fun β hf=>?_
   repeat' (first|refine sz ?_|refine uC rfl BK ?_)
   rfl
  have hq:=nE args (fun x => !ju x) 130 [] hin bn;refine qn Tryz.func102 Tryz.call102 fun β hf=>?_
  repeat' (first|refine sz ?_|(refine zc ?_ ?_<;>intro h<;>first|(cases h;done)|rw[h]|skip)|refine uC rfl hq ?_|((first|refine zt ?_|refine zu ?_ ?_)<;>intro h<;>(fail_if_success (cases h;done))<;>rw[h]))
  all_goals
   have ha:=xK L8 args;simp only[ju]at *;simp only[C7,<- ha,L8];simp_all
termination_by t=>SizeOf.sizeOf t
decreasing_by
 have:=List.sizeOf_lt_of_mem hx;simp at this ⊢;omega
end Go.Proofs
namespace Go.Proofs
open Go.cq
attribute [local irreducible] AK ai bh
abbrev kQ (q:List Int):List CV:=q.map fun n => .int .i64 n
theorem ints_at {l:List Int} {i:Nat} {x:Int} (h:l[i]?=some x):(kQ l)[i]?=some (.int .i64 x):=by simp[kQ,h]
theorem Uz {l:List Int} {i:Nat} {x:Int} (h:l[i]?=some x):decide (((i:Nat):Int)<(((kQ l).length:Nat):Int))=true:=dec_lt (by have:=bB h;simp[kQ];omega)
theorem Q5 {l:List Int} {i:Nat} (h:i=l.length):decide (((i:Nat):Int)<(((kQ l).length:Nat):Int))=false:=GM (by simp[kQ];omega)
theorem iE {i:Nat} (h:i<1099511627776):some (AV.c (CV.int .i64 (IntKind.i64.wrap ((i:Int)+1))))=some (AV.c (CV.int .i64 ((i+1:Nat):Int))):=by
 rw[gW bn bn];rfl
end Go.Proofs
