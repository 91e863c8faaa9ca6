/- What the functions In, Abs, bound, Add, Sub and Ediv of package num answer, for all numbers. Package run as plain functions: the machine's state, and what each instruction makes of it. Types of which all parts are there, and what fits finds. What kind.arity answers. What slices.IndexFunc over types  -/
import Derived.Test.YtlohbilpimjmmaaGreatDoorTPure
import Derived.Test.YtlohbilpimjmmaaGreatDoorCtx
import Derived.Test.YtlohbilpimjmmaaGreatDoorCPure
set_option maxHeartbeats 0
set_option linter.unusedVariables false
set_option linter.unusedSimpArgs false
namespace Go.Proofs
open Go.cu
attribute [local irreducible] AK ai bw
def tY (n:Int):Bool:=decide (n >= -1152921504606846976)&&decide (n<=1152921504606846976)
def ng (n:Int):Int×Int:=if tY n=true then(if n<0 then -n else n,0)else(0,2)
def lA (n:Int):Int×Int:=if tY n=true then(n,0)else(0,11)
def sV (a b:Int):Int×Int:=if tY a=true/\tY b=true then lA (a+b)else(0,2)
def jR (a b:Int):Int×Int:=if tY a=true/\tY b=true then lA (a-b)else(0,2)
def qY (a b:Int):Int×Int:=if tY a=true/\tY b=true then lA (a*b)else(0,2)
def gF (a b:Int):Int×Int×Int:=if tY a=true/\tY b=true then(if b=0 then(0,0,6)else(a/b,a%b,0))else(0,0,2)
theorem G0 {a b q r:Int} (h:r+b*q=a) (B:0<=r) (p:0<b/\r<b\/b<0/\r < -b):a/b=q/\a%b=r:=by
 rcases p with ⟨p,h1⟩|⟨p,h1⟩
 ·exact(Int.ediv_emod_unique p).2 ⟨h,B,h1⟩
 ·have h2:r+(-b)*(-q)=a:=by rw[Int.neg_mul_neg];exact h
  obtain⟨V,D⟩:=(Int.ediv_emod_unique (by omega:0 < -b)).2 ⟨h2,B,h1⟩;rw[Int.ediv_neg]at V;rw[Int.emod_neg]at D;exact⟨bn,D⟩
theorem LW (a b:Int) (p:b≠0):a.tmod b+b*a.tdiv b=a/\(0<b -> -b<a.tmod b/\a.tmod b<b)/\(b<0->b<a.tmod b/\a.tmod b < -b) /\
  ((0<=a->0<=a.tmod b)/\(a<=0->a.tmod b<=0))/\(0<=a -> -a<=a.tdiv b/\a.tdiv b<=a)/\(a<=0->a<=a.tdiv b/\a.tdiv b <= -a):=by
 refine⟨Int.tmod_add_mul_tdiv a b,fun h=>?_,fun h=>?_,⟨fun h=>Int.tmod_nonneg b h,fun h=>?_⟩,fun h=>?_,fun h=>?_⟩
 ·refine⟨?_,Int.tmod_lt_of_pos a h⟩;have:=Int.tmod_lt_of_pos (-a) h;rw[Int.neg_tmod]at this;omega
 ·have h1:=Int.tmod_lt_of_pos a (by omega:0 < -b);have h2:=Int.tmod_lt_of_pos (-a) (by omega:0 < -b);rw[Int.neg_tmod]at h2;rw[Int.tmod_neg]at h1 h2;omega
 ·have:=Int.tmod_nonneg b (by omega:0 <= -a);rw[Int.neg_tmod]at this;omega
 ·have:=Int.natAbs_tdiv_le_natAbs a b;omega
 ·have:=Int.natAbs_tdiv_le_natAbs a b;omega
theorem lR {n:Int}:tY n=true ↔ -1152921504606846976<=n/\n<=1152921504606846976:=by simp[tY]
theorem jf (n:Int):ah 73 [.int .i64 n] (.bool (tY n)):=by
 refine qn Tryz.func73 Tryz.call73 fun β hf=>?_
 repeat' (first|refine sz ?_|((first|refine zt ?_|refine zu ?_ ?_)<;>intro h<;>(fail_if_success (cases h;done))<;>rw[h]))
 all_goals (simp_all [tY];try omega)
abbrev two (x:Int×Int):CV := .gB [.int .i64 x.1,.int .i64 x.2]
abbrev three (x:Int×Int×Int):CV := .gB [.int .i64 x.1,.int .i64 x.2.1,.int .i64 x.2.2]
theorem R4 {a b c d:Int} (h:a=c) (Y:b=d):CV.gB [.int .i64 a,.int .i64 b] = .gB [.int .i64 c,.int .i64 d]:=by rw[h,Y]
theorem C2 {a b c d e f:Int} (h:a=d) (W:b=e) (Y:c=f):CV.gB [.int .i64 a,.int .i64 b,.int .i64 c] = .gB [.int .i64 d,.int .i64 e,.int .i64 f]:=by rw[h,W,Y]
theorem zZ (n:Int):ah 114 [.int .i64 n] (two (ng n)):=by
 refine qn Tryz.func114 Tryz.call114 fun β hf=>?_
 repeat' (first|refine sz ?_|(refine zc ?_ ?_<;>intro h<;>first|(cases h;done)|rw[h]|skip)|refine uC rfl (jf n) ?_)
 ·simp_all [ng,two]
 ·have h1:tY n=true:=by simp_all
  have h2:=lR.1 h1;rw[gZ bn bn];simp_all [ng,two]
 ·simp_all [ng,two];omega
theorem A6 (n:Int):ah 137 [.int .i64 n] (two (lA n)):=by
 refine qn Tryz.func137 Tryz.call137 fun β hf=>?_
 repeat' (first|refine sz ?_|(refine zc ?_ ?_<;>intro h<;>first|(cases h;done)|rw[h]|skip)|refine uC rfl (jf n) ?_)
 all_goals simp_all [lA,two]
theorem Fz (a b:Int):ah 116 [.int .i64 a,.int .i64 b] (two (sV a b)):=by
 refine qn Tryz.func116 Tryz.call116 fun β hf=>?_
 repeat' (first|refine sz ?_|(refine zc ?_ ?_<;>intro h<;>first|(cases h;done)|rw[h]|skip)|refine uC rfl (jf a) ?_|refine uC rfl (jf b) ?_|refine uC rfl (A6 _) ?_|((first|refine zt ?_|refine zu ?_ ?_)<;>intro h<;>(fail_if_success (cases h;done))<;>rw[h]))
 all_goals try (simp_all [sV,two];done)
 ·rename_i h1;obtain⟨h1,h2⟩:tY a=true/\tY b=true:=by simp_all
  have V:=lR.1 h1;have D:=lR.1 h2;rw[gZ bn bn];simp[sV,two,h1,h2]
theorem vT (a b:Int):ah 118 [.int .i64 a,.int .i64 b] (two (jR a b)):=by
 refine qn Tryz.func118 Tryz.call118 fun β hf=>?_
 repeat' (first|refine sz ?_|(refine zc ?_ ?_<;>intro h<;>first|(cases h;done)|rw[h]|skip)|refine uC rfl (jf a) ?_|refine uC rfl (jf b) ?_|refine uC rfl (A6 _) ?_|((first|refine zt ?_|refine zu ?_ ?_)<;>intro h<;>(fail_if_success (cases h;done))<;>rw[h]))
 all_goals try (simp_all [jR,two];done)
 ·rename_i h1;obtain⟨h1,h2⟩:tY a=true/\tY b=true:=by simp_all
  have V:=lR.1 h1;have D:=lR.1 h2;rw[gZ bn bn];simp[jR,two,h1,h2]
theorem sW (a b:Int):ah 139 [.int .i64 a,.int .i64 b] (three (gF a b)):=by
 refine qn Tryz.func139 Tryz.call139 fun β hf=>?_
 repeat' (first|refine sz ?_|(refine zc ?_ ?_<;>intro h<;>first|(cases h;done)|rw[h]|skip)|refine uC rfl (jf a) ?_|refine uC rfl (jf b) ?_|(first|refine ai.quo Tryz.hX kn rfl rfl rfl rfl rfl rfl rfl (by simp_all) ?_|refine ai.rem Tryz.hX kn rfl rfl rfl rfl rfl rfl rfl (by simp_all) ?_)|((first|refine zt ?_|refine zu ?_ ?_)<;>intro h<;>(fail_if_success (cases h;done))<;>rw[h]))
 all_goals try (simp_all [gF,three];done)
 all_goals
  obtain⟨h1,h2,V⟩:tY a=true/\tY b=true/\b≠0:=by simp_all
  have D:=lR.1 h1;have J:=lR.1 h2;obtain⟨A,E,B,⟨Q,U⟩,e6,e7⟩:=LW a b V;have T : -1152921504606846976<=a.tdiv b/\a.tdiv b<=1152921504606846976:=by omega
  rw[show gF a b=(a/b,a%b,0)from by simp[gF,h1,h2,V]]
 ·have W:a.tmod b<0:=by simp_all
  have u:b>0:=by simp_all
  obtain⟨p,Y⟩:=G0 (a:=a) (b:=b) (q:=a.tdiv b-1) (r:=a.tmod b+b) (by rw[Int.mul_sub];omega) bn bn;rw[gZ (n:=a.tdiv b) bn bn,gZ bn bn,gZ bn bn];exact C2 p.symm Y.symm rfl
 ·have W:a.tmod b<0:=by simp_all
  have u:b<0:=by simp_all;omega
  obtain⟨p,Y⟩:=G0 (a:=a) (b:=b) (q:=a.tdiv b+1) (r:=a.tmod b-b) (by rw[Int.mul_add];omega) bn bn;rw[gZ (n:=a.tdiv b) bn bn,gZ bn bn,gZ bn bn];exact C2 p.symm Y.symm rfl
 ·have W:a.tmod b>=0:=by simp_all
  obtain⟨p,Y⟩:=G0 (a:=a) (b:=b) (q:=a.tdiv b) (r:=a.tmod b) bn bn bn;rw[gZ bn bn];exact C2 p.symm Y.symm rfl
end Go.Proofs
namespace Go.Proofs
open Go.cu
def xA:Vl->Int | .mk _ _ a _ _ _ _=>a
def LX:Vl->List Ty | .mk _ _ _ _ _ t _=>t
def yI:Vl->List Nd | .mk _ _ _ _ _ _ c=>c
structure eO where
 code:List Nd
 pos:Nat
 fin:Int
 aside:List Vl
structure bT where
 self:Int
 gU:Int
 gV:Int
 balance:Int
 st:List Vl
 fr:List eO
 gS:Int
 used:Int
 aU:Int
 said:Vl
def je:Nat->List Vl->Option (List Vl×List Vl)
 | 0,s=>some ([],s)
 | _+1,[]=>none
 | n+1,v::s=>match je n s with
  | some (l,r)=>some (v::l,r)
  | none=>none
def nA:List Vl->List Vl->Int×List Vl
 | [],s=>(0,s)
 | v::l,s=>if lJ v>200 then(13,s)else nA l (v::s)
def aO (k n:Int):Vl := .mk k n 0 [] [] [] []
def iw (b:Bool):Vl:=aO 2 (if b then 1 else 0)
def cx (l:List Vl):Vl := .mk 9 0 0 [] l [] []
def bB (a b:Vl):Vl := .mk 11 0 0 [] [a,b] [] []
def bV (p:Int):Nat :=
 if p∈[41,43,45,54,56,61,66,89,90,91,92]then 0
 else if p∈[42,46,57,62,67,69,70,71,72,73,78,79,80,84,86]then 2
 else if p∈[63,88]then 3 else 1
def ofM (p a b:Int):Int:=if a=5\/b=5 then 5 else if a=4/\b=4/\p≠70 then 4 else 3
def cq:List Vl->Vl->Nat
 | [],_=>0
 | x::l,k=>if dA (lB x) k<0 then cq l k+1 else 0
def eP (l:List Vl) (k:Vl):Bool:=match l[cq l k]? with
 | some x=>decide (dA (lB x) k=0)
 | none=>false
abbrev MR:=Int×bT
def bg (S:bT) (l:List Vl):MR:=((nA l S.st).1,{S with st:=(nA l S.st).2})
def dr (S:bT) (B:List Nd) (fin:Int) (T:List Vl):bT:={S with fr:=⟨B,0,fin,T⟩::S.fr}
def vU (S:bT) (B:List Nd) (fin:Int) (T:List Vl):bT:={S with fr:=⟨B,B.length,fin,T⟩::S.fr}
def aN (args:List Nd) (i:Nat):Nat:=(IM (args.getD i sE)).toNat
def aC (args:List Nd) (i:Nat):List Nd:=bh (args.getD i sE)
def aT (args:List Nd) (i:Nat):Ty:=(aZ (args.getD i sE)).1
def lV (l:List Vl) (i:Nat):Vl:=l.getD i oO
def A1 (P:Int) (args:List Nd) (l:List Vl) (S:bT):MR :=
 if P=42 then bg S [lV l 0,lV l 1]
 else if P=41 then bg S [lV S.st (aN args 0-1)]
 else if P=43 then(0,{S with st:=lV S.st (aN args 0)::(S.st.take (aN args 0)++S.st.drop (aN args 0+1))})
 else if P=44 then(0,{S with st:=S.st.take (aN args 0)++lV l 0::S.st.drop (aN args 0)})
 else(0,S)
def uD (P:Int) (args:List Nd) (l:List Vl) (S:bT):MR :=
 if P=45 then bg S [(iB (aT args 0) (args.getD 1 sE)).1]
 else if P=46 then bg S [bB (lV l 0) (lV l 1)]
 else if P=50\/P=51 then bg S [.mk 12 (P-50) 0 [] l [] []]
 else if P=53 then bg S [cx [lV l 0]]
 else if P=54 then bg S [cx []]
 else if P=56 then bg S [.mk 10 0 0 [] [] [] []]
 else if P=47 then bg S [lV (eo (lV l 0)) 1,lV (eo (lV l 0)) 0]
 else if P=48 then bg S [lV (eo (lV l 0)) 0]
 else bg S [lV (eo (lV l 0)) 1]
def og (P:Int) (args:List Nd) (l:List Vl) (S:bT):MR :=
 if P=52 then bg (dr S (aC args (vN (lV l 0)).toNat) 0 []) [lV (eo (lV l 0)) 0]
 else if P=55 then bg (dr S (aC args (min (eo (lV l 0)).length 1)) 0 []) (eo (lV l 0))
 else if P=58 then(match eo (lV l 0)with
  | []=>(0,dr S (aC args 1) 0 [])
  | x::xs=>bg (dr S (aC args 0) 0 []) [.mk 10 0 0 [] xs [] [],x])
 else if P=60 then(0,vU S (aC args 0) 3 (eo (lV l 0)))
 else if P=64 then(0,dr S (aC args (1-(vN (lV l 0)).toNat)) 0 [])
 else if P=65 then(0,{vU S (aC args 0) 4 []with st:=lV l 0::S.st})
 else if P=68 then(0,dr S (aC args 0) 1 [lV l 0])
 else if P=66 then bg S [.mk 14 0 0 [] [] [aT args 0,aT args 1] (aC args 2)]
 else(0,{dr S (yI (lV l 1)) 2 S.st.reverse with st:=[lV l 0]})
def uE (P:Int) (args:List Nd) (l:List Vl) (S:bT):MR :=
 if P=57 then(if 24<=(eo (lV l 1)).length then(13,S)else bg S [.mk 10 0 0 [] (lV l 0::eo (lV l 1)) [] []])
 else if P=59 then bg S [aO 4 ((vS (lV l 0)).length+(eo (lV l 0)).length:Nat)]
 else if P=61 then bg S [.mk 13 0 0 [] [] [] []]
 else if P=62 then(if eP (eo (lV l 1)) (lV l 0)=true then bg S [cx [lV (eo (lV (eo (lV l 1)) (cq (eo (lV l 1)) (lV l 0)))) 1]]else bg S [cx []])
 else
  let m:=eo (lV l 2);let i:=cq m (lV l 0);let x:=if eP m (lV l 0)=true then m.take i++m.drop (i+1)else m
  match eo (lV l 1)with
  | []=>bg S [.mk 13 0 0 [] x [] []]
  | y::_=>if 24<=x.length then(13,S)else bg S [.mk 13 0 0 [] (x.take i++bB (lV l 0) y::x.drop i) [] []]
def qC (P:Int) (l:List Vl) (S:bT):MR :=
 if P=93 then bg S [aO 4 (ng (vN (lV l 0))).1]
 else if P=94 then(if vN (lV l 0)<0 then bg S [cx []]else bg S [cx [aO 4 (vN (lV l 0))]])
 else if P=95 then bg S [aO 3 (vN (lV l 0))]
 else
  let a:=lV l 0;let b:=lV l 1;let k:=ofM P (vK a) (vK b)
  if P=69 then(if(sV (vN a) (vN b)).2≠0 then((sV (vN a) (vN b)).2,S)else bg S [aO k (sV (vN a) (vN b)).1])
  else if P=71 then(if(qY (vN a) (vN b)).2≠0 then((qY (vN a) (vN b)).2,S)else bg S [aO k (qY (vN a) (vN b)).1])
  else if P=70 then(if(jR (vN a) (vN b)).2≠0 then((jR (vN a) (vN b)).2,S)
   else if k=5 then(if(jR (vN a) (vN b)).1<0 then bg S [cx []]else bg S [cx [aO 5 (jR (vN a) (vN b)).1]])
   else bg S [aO k (jR (vN a) (vN b)).1])
  else if(gF (vN a) (vN b)).2.2≠0 then bg S [cx []]
  else bg S [cx [bB (aO (if k=5/\vK b=5 then 4 else k) (gF (vN a) (vN b)).1) (aO (if k=5 then 5 else 4) (gF (vN a) (vN b)).2.1)]]
def A2 (P:Int) (args:List Nd) (l:List Vl) (S:bT):MR :=
 let a:=lV l 0
 if P=73 then bg S [aO 3 (dA a (lV l 1))]
 else if P=74\/P=77 then bg S [iw (decide (vN a=0))]
 else if P=75 then bg S [iw (decide (vN a<0))]
 else if P=76 then bg S [iw (decide (vN a>0))]
 else if P=78 then bg S [iw (decide (vN a=1/\vN (lV l 1)=1))]
 else if P=79 then bg S [iw (decide (vN a=1\/vN (lV l 1)=1))]
 else if P=80 then(if 200<(vS a).length+(vS (lV l 1)).length then(13,S)else bg S [.mk 6 0 0 (vS a++vS (lV l 1)) [] [] []])
 else if P=81 then(if(tJ a).2≠0 then(13,S)else bg S [.mk 6 0 0 (tJ a).1 [] [] []])
 else if P=82 then(if(gC (aT args 0) (vS a)).2≠0 then bg S [cx []]else bg S [cx [(gC (aT args 0) (vS a)).1]])
 else(10,{S with said:=a})
def qX (P:Int) (args:List Nd) (l:List Vl) (S:bT):MR :=
 let a:=lV l 0
 if P=89 then bg S [aO 7 S.self]
 else if P=90 then bg S [aO 7 S.gU]
 else if P=91 then bg S [aO 5 S.gV]
 else if P=92 then bg S [aO 5 S.balance]
 else if P=84 then(if vN (lV l 1)=0 then bg S [cx []]else if S.aU>bM-vN (lV l 1)then(11,S)
  else bg {S with aU:=S.aU+vN (lV l 1)} [cx [.mk 15 (vN (lV l 1)) S.self [] [a] [] []]])
 else if P=88 then bg S [.mk 8 (vN (lV l 1)) (vN (lV l 2)) [] [a] [aT args 0] []]
 else if P=85 then bg S [a,bB (aO 7 (xA a)) (bB (lV (eo a) 0) (aO 4 (vN a)))]
 else if P=86 then
  let n:=vN (lV (eo (lV l 1)) 0);let m:=vN (lV (eo (lV l 1)) 1)
  if n<1\/m<1\/n+m≠vN a then bg S [cx []]
  else bg S [cx [bB (.mk (vK a) n (xA a) (vS a) (eo a) (LX a) (yI a)) (.mk (vK a) m (xA a) (vS a) (eo a) (LX a) (yI a))]]
 else
  let x:=lV (eo a) 0;let y:=lV (eo a) 1
  if xA x≠xA y\/dA (lV (eo x) 0) (lV (eo y) 0)≠0 then bg S [cx []]
  else if vN x>bM-vN y then(11,S)
  else bg S [cx [.mk (vK x) (vN x+vN y) (xA x) (vS x) (eo x) (LX x) (yI x)]]
def gT (P:Int) (args:List Nd) (l:List Vl) (S:bT):MR :=
 if P<=44 then A1 P args l S
 else if P<=56/\P≠52/\P≠55 then uD P args l S
 else if P=52\/P=55\/P=58\/P=60\/64<=P/\P<=68 then og P args l S
 else if P<=63 then uE P args l S
 else if P<=72\/P>=93 then qC P l S
 else if P<=83 then A2 P args l S
 else qX P args l S
end Go.Proofs
namespace Go.cu
mutual
def A7:Ty->Bool
 | .mk T args=>decide (arity T=args.length)&&xB args
def xB:List Ty->Bool
 | []=>true
 | t::l=>A7 t&&xB l
end
mutual
theorem C3:∀(t:Ty) (d n:Int),n<=300->(eR t d n).1=true->A7 t=true/\(eR t d n).2=n+bC t
 | .mk T args,d,n,O,h=>by
  simp only[eR]at h ⊢;by_cases c:d>24\/n+1>300\/arity T≠args.length
  ·rw[if_pos c]at h;simp at h
  rw[if_neg c]at h ⊢;have S:=A8 args (d+1) (n+1) bn;rcases I:dM args (d+1) (n+1)with ⟨b,m⟩
  rw[I]at h S;cases b with
  | false=>simp at h
  | true =>
   obtain⟨u,D⟩:=S rfl;simp only at D ⊢;refine⟨?_,?_⟩
   ·have:arity T=args.length:=by omega
    simp[A7,this,u]
   ·simp only[bC];omega
theorem A8:∀(l:List Ty) (d n:Int),n<=300->(dM l d n).1=true->xB l=true/\(dM l d n).2=n+br l
 | [],d,n,O,h=>by simp[dM,xB,br]
 | t::l,d,n,O,h=>by
  simp only[dM]at h ⊢;have S:=C3 t d n O;have Q:=rJ t d n O;rcases I:eR t d n with ⟨b,m⟩
  rw[I]at h S Q;cases b with
  | false=>simp at h
  | true =>
   obtain⟨u,D⟩:=S rfl;have Y:=Q.2.2 rfl;simp only at h D Y ⊢;obtain⟨W,V⟩:=A8 l d m Y h;refine⟨by simp[xB,u,W],?_⟩;simp only[br];omega
end
def lS (t:Ty):Prop:=A7 t=true/\bC t<=300
theorem cL {t:Ty} (h:bA t=true):lS t:=by
 obtain⟨h1,h2⟩:=C3 t 1 0 bn h;have V:=(rJ t 1 0 bn).2.2 h;exact⟨h1,bn⟩
theorem C4:∀{l:List Ty} {x:Ty},xB l=true->x∈l->A7 x=true
 | t::l,x,h,O=>by
  simp only[xB,aaj]at h;rcases List.mem_cons.1 O with rfl|O
  ·exact h.1
  ·exact C4 h.2 O
theorem rV {T:Int} {l:List Ty} (h:lS (.mk T l)):arity T=l.length/\∀x∈l,lS x:=by
 obtain⟨h1,h2⟩:=h;simp only[A7,aaj,decide_eq_true_eq,bC]at h1 h2;exact⟨h1.1,fun x O=>⟨C4 h1.2 O,by have:=cF O;omega⟩⟩
theorem eY {T:Int} {l:List Ty} (h:lS (.mk T l)) (p:arity T=1):∃x,l=[x]/\lS x:=by
 obtain⟨h1,h2⟩:=rV h;rcases l with _|⟨x,_|⟨y,l⟩⟩
 ·simp at h1;omega
 ·simp_all
 ·simp at h1;omega
theorem eN {T:Int} {l:List Ty} (h:lS (.mk T l)) (p:arity T=2):∃x y,l=[x,y]/\lS x/\lS y:=by
 obtain⟨h1,h2⟩:=rV h;rcases l with _|⟨x,_|⟨y,_|⟨z,l⟩⟩⟩
 ·simp at h1;omega
 ·simp at h1;omega
 ·grind
 ·simp at h1;omega
theorem yu {T U:Int} {l:List Ty} (h:lS (.mk T l)) (p:arity T=arity U):lS (.mk U l):=by
 obtain⟨h1,h2⟩:=h;simp only[A7,bC,p]at h1 h2;exact⟨by simpa[A7]using h1,by simpa[bC]using h2⟩
def qv (s:List Ty):Prop:=∀t∈s,lS t
theorem nZ {t:Ty} {s:List Ty} (h:qv (t::s)):lS t/\qv s:=⟨h t (by simp),fun x O=>h x (by simp[O])⟩
theorem kP {t:Ty} {s:List Ty} (h1:lS t) (h2:qv s):qv (t::s):=fun x O=>by
 rcases List.mem_cons.1 O with rfl|O
 ·exact h1
 ·exact h2 x O
theorem NO:qv []:=fun x O=>by simp at O
theorem uo {s:List Ty} (h:s.all bA=true):qv s:=fun t M=>cL (List.all_eq_true.1 h t M)
theorem kj {n:Nd} (h:(aZ n).2=0):bA (aZ n).1=true:=by
 unfold aZ at h ⊢;split at h
 ·grind
 ·simp at h
theorem cZ {P:Int} {args:List Nd} {H:List Ty} (h:bQ P args=some H) (Y:fS P=[]):args=[]/\H=[]:=by
 unfold bQ at h;rw[Y]at h;split at h
 ·simp at h
 ·rename_i c;rcases args with _|⟨x,l⟩
  ·simp[ja]at h;exact⟨rfl,h⟩
  ·simp at c
theorem GF {P:Int} {args:List Nd} {H:List Ty} (h:bQ P args=some H) (Y:fS P=[110]):∃N p S xs,args=[.mk 0 N p S xs]/\0<=N/\N<=40/\H=[]:=by
 unfold bQ at h;rw[Y]at h;split at h
 ·simp at h
 ·rename_i c;rcases args with _|⟨⟨k,N,p,S,xs⟩,_|⟨y,l⟩⟩
  ·simp at c
  ·simp[ja]at h;obtain⟨⟨rfl,h1,h2⟩,V⟩:=h;exact⟨N,p,S,xs,rfl,h1,h2,V⟩
  ·simp at c
theorem vO {P:Int} {args:List Nd} {H:List Ty} (h:bQ P args=some H) (Y:fS P=[116]):∃x t,args=[x]/\H=[t]/\lS t:=by
 unfold bQ at h;rw[Y]at h;split at h
 ·simp at h
 ·rename_i c;rcases args with _|⟨⟨k,N,p,S,xs⟩,_|⟨y,l⟩⟩
  ·simp at c
  ·simp[ja]at h;exact⟨_,_,rfl,h.2.symm,cL (kj h.1)⟩
  ·simp at c
theorem Ry {P:Int} {args:List Nd} {H:List Ty} (h:bQ P args=some H) (Y:fS P=[116,118]):∃x y t,args=[x,y]/\H=[t]/\lS t:=by
 unfold bQ at h;rw[Y]at h;split at h
 ·simp at h
 ·rename_i c;rcases args with _|⟨⟨k,N,p,S,xs⟩,_|⟨⟨k',V,U,S',W⟩,_|⟨z,l⟩⟩⟩
  ·simp at c
  ·simp at c
  ·simp[ja]at h;exact⟨_,_,_,rfl,h.2.symm,cL (kj h.1)⟩
  ·simp at c
theorem Rf {P:Int} {args:List Nd} {H:List Ty} (h:bQ P args=some H) (Y:fS P=[116,116]):∃x y t u,args=[x,y]/\H=[t,u]/\lS t/\lS u:=by
 unfold bQ at h;rw[Y]at h;split at h
 ·simp at h
 ·rename_i c;rcases args with _|⟨⟨k,N,p,S,xs⟩,_|⟨⟨k',V,U,S',W⟩,_|⟨z,l⟩⟩⟩
  ·simp at c
  ·simp at c
  ·simp[ja]at h;exact⟨_,_,_,_,rfl,h.2.2.symm,cL (kj h.1),cL (kj h.2.1)⟩
  ·simp at c
theorem GK {P:Int} {args:List Nd} {H:List Ty} (h:bQ P args=some H) (Y:fS P=[99]):∃N p S xs,args=[.mk 3 N p S xs]/\H=[]:=by
 unfold bQ at h;rw[Y]at h;split at h
 ·simp at h
 ·rename_i c;rcases args with _|⟨⟨k,N,p,S,xs⟩,_|⟨y,l⟩⟩
  ·simp at c
  ·simp[ja]at h;obtain⟨rfl,V⟩:=h;exact⟨N,p,S,xs,rfl,V⟩
  ·simp at c
theorem yq {P:Int} {args:List Nd} {H:List Ty} (h:bQ P args=some H) (U:fS P=[99,99]):∃N p S xs W V S' Y,args=[.mk 3 N p S xs,.mk 3 W V S' Y]/\H=[]:=by
 unfold bQ at h;rw[U]at h;split at h
 ·simp at h
 ·rename_i c;rcases args with _|⟨⟨k,N,p,S,xs⟩,_|⟨⟨k',W,V,S',Y⟩,_|⟨z,l⟩⟩⟩
  ·simp at c
  ·simp at c
  ·simp[ja]at h;obtain⟨rfl,rfl,T⟩:=h;exact⟨N,p,S,xs,W,V,S',Y,rfl,T⟩
  ·simp at c
theorem Fk {P:Int} {args:List Nd} {H:List Ty} (h:bQ P args=some H) (W:fS P=[116,116,99]):∃x y N p S xs t u,args=[x,y,.mk 3 N p S xs]/\H=[t,u]/\lS t/\lS u:=by
 unfold bQ at h;rw[W]at h;split at h
 ·simp at h
 ·rename_i c;rcases args with _|⟨⟨k,N,p,S,xs⟩,_|⟨⟨k',O,M,S',V⟩,_|⟨⟨D,U,B,T,Y⟩,_|⟨w,l⟩⟩⟩⟩
  ·simp at c
  ·simp at c
  ·simp at c
  ·simp[ja]at h;obtain⟨h1,h2,rfl,Q⟩:=h;exact⟨_,_,U,B,T,Y,_,_,rfl,Q.symm,cL (kj h1),cL (kj h2)⟩
  ·simp at c
theorem AY (x:Nd) (l:List Nd):bf (x::l)=(fun s=>cw (bh x) (s,false))::bf l:=by
 cases x;simp only[bf,bh]
theorem N1 (e:Int):qv (aP e).1.1:=fun x O=>by simp[aP]at O
theorem jW:∀(l:List Nd) (o:List Ty×Bool),qv o.1->qv (cw l o).1.1/\(cw l o).1.1.length<=o.1.length+40
 | [],o,h=>by simp only[cw];exact⟨h,bn⟩
 | n::l,o,h=>by
  simp only[cw];split
  ·exact⟨N1 _,by simp[aP]⟩
  ·split
   ·exact⟨N1 _,by simp[aP]⟩
   ·rename_i h1 h2;obtain⟨u,C,G,K⟩:=rO (r:=eX n o.1) uG;have S:=jW l (lG (eX n o.1)).1;rw[C]at S ⊢;simp only at S ⊢;refine⟨(S (uo K)).1,?_⟩;have:=Js l (eX n o.1).1 G;omega
where
 Js:∀(l:List Nd) (o:List Ty×Bool),o.1.length<=40->(cw l o).1.1.length<=40
 | [],o,h=>by simp only[cw];exact h
 | n::l,o,h=>by
  simp only[cw];split
  ·simp[aP]
  ·split
   ·simp[aP]
   ·rename_i h1 h2;obtain⟨a1,a2,a3,a4⟩:=rO (r:=eX n o.1) uG;rw[a2];exact Js l _ a3
end Go.cu
namespace Go.Proofs
open Go.cu
attribute [local irreducible] AK ai bw
theorem uc (t:Int):ah 45 [.int .i64 t] (.int .i64 (arity t)):=by
 refine qn Tryz.func45 Tryz.call45 fun β hf=>?_
 repeat' (first|refine sz ?_|(refine zc ?_ ?_<;>intro h<;>first|(cases h;done)|rw[h]|skip))
 all_goals simp_all [arity]
end Go.Proofs
namespace Go.Proofs
open Go.cu
attribute [local irreducible] AK ai bw
def idxOf {α:Type} (p:α->Bool):List α->Int
 | [] => -1
 | x::l=>if p x then 0 else(match idxOf p l with
  | -1 => -1
  | n=>n+1)
theorem qD {α:Type} (p:α->Bool):∀(l:List α),(idxOf p l = -1/\∀x∈l,p x=false)\/∃(i:Nat) (x:α),l[i]?=some x/\p x=true/\(∀(j:Nat) y,j<i->l[j]?=some y->p y=false)/\idxOf p l=i
 | [] => .inl ⟨rfl,cn⟩
 | x::l=>by
  by_cases O:p x
  ·right;exact⟨0,x,cn,O,cn,by simp[idxOf,O]⟩
  ·rcases qD p l with ⟨h1,h2⟩|⟨i,y,h1,h2,V,D⟩
   ·left;exact⟨by simp[idxOf,O,h1],by simpa[O]using h2⟩
   ·right;refine⟨i+1,y,Vf,h2,?_,?_⟩
    ·intro j z P Y;cases j with
     | zero=>simp at Y;subst Y;simpa using O
     | succ j=>simp at Y;exact V j z bn Y
    ·have:idxOf p (x::l)=(match idxOf p l with | -1 => -1|n=>n+1):=by simp[idxOf,O]
     rw[this,D];split
     ·omega
     ·rfl
theorem uh {α:Type} (p:α->Bool) (l:List α) (i:Nat) (x:α) (O:l[i]?=some x) (h:p x=true) (Y:∀(j:Nat) y,j<i->l[j]?=some y->p y=false):idxOf p l=i:=by
 rcases qD p l with ⟨h1,h2⟩|⟨k,y,h1,h2,V,D⟩
 ·have:=h2 x (aaz O);rw[h]at this;simp at this
 ·rw[D];rcases Nat.lt_trichotomy i k with H|rfl|H
  ·have:=V i x H O;rw[h]at this;simp at this
  ·rfl
  ·have:=Y k y H h1;rw[h2]at this;simp at this
theorem xl {α:Type} (p:α->Bool) (l:List α) (h:∀(j:Nat) y,l[j]?=some y->p y=false):idxOf p l = -1:=by
 rcases qD p l with ⟨h1,_⟩|⟨k,y,h1,h2,_⟩
 ·exact h1
 ·have:=h k y h1;rw[h2]at this;simp at this
theorem zK {α:Type} (p:α->Bool) (l:List α):decide (idxOf p l>=0)=l.any p:=by
 rcases qD p l with ⟨h1,h2⟩|⟨k,y,h1,h2,V,D⟩
 ·rw[h1];symm;simp;intro x O;simpa using h2 x O
 ·rw[D];symm;simp;exact⟨y,aaz h1,h2⟩
set_option maxHeartbeats 1000000 in
theorem EH (l:List Ty) (p:Ty->Bool) (f:FuncId) (caps:List CV) (hp:∀x∈l,ah f (eC x::caps) (.bool (p x))) (hlen:l.length<=1099511627776) :
  ah 124 [.sl 2 (aE l),.rK f caps] (.int .i64 (idxOf p l)):=by
 refine qn Tryz.func124 Tryz.call124 fun β hf=>?_;refine AK.Lw Tryz.hX Tryz.mixed 300 rfl ?_;refine AK.eM (α:=Nat) (fun i=>i<=l.length/\∀(j:Nat) x,j<i->l[j]?=some x->p x=false) (fun i=>l.length-i)
  (fun i=>[(8,.c (.int .i64 i)),(7,.c (.int .i64 (aE l).length)),(0,.c (.sl 2 (aE l))),(1,.c (.rK f caps))]) (fun _=>[]) (fun _=>[]) [] 0
  ⟨bn,by intro j x h;omega⟩ ⟨.inl rfl,.inl rfl,.inl rfl,.inl rfl,trivial⟩ trivial trivial rfl rfl rfl ?_
 rintro i ⟨hi,hno⟩ ih
 repeat' (first|refine sz ?_|(refine zc ?_ ?_<;>intro h<;>first|(cases h;done)|rw[h]|skip))
 ·have hlt:i<l.length:=by simpa[aY]using h
  obtain⟨⟨T,args⟩,hx⟩:∃x,l[i]?=some x:=⟨l[i],by simp[hlt]⟩
  refine ai.index Tryz.hX rfl rfl rfl rfl rfl rfl rfl rfl rfl rfl i rfl (by rw[xC,hx];rfl) rfl ?_
  repeat' (first|refine sz ?_|(refine zc ?_ ?_<;>intro h<;>first|(cases h;done)|rw[h]|skip)|refine uC rfl (hp ⟨T,args⟩ (aaz hx)) ?_)
  ·rw[uh p l i ⟨T,args⟩ hx h hno]
  ·have yG:=h
   have YB:=ih (i+1) ⟨bn,fun j x hj UM=>by
    by_cases hji:j=i
    ·subst hji;rw[hx]at UM;simp at UM;subst UM;exact yG
    ·exact hno j x bn UM⟩ bn
   refine AK.again YB ⟨.inl ?_,.inl rfl,.inl rfl,.inl rfl,trivial⟩ trivial trivial rfl rfl rfl;rw[gZ bn bn];rfl
 ·have hge:l.length<=i:=by simpa[aY]using h
  rw[xl p l fun j y hy=>hno j y RC hy]
end Go.Proofs
namespace Go.Proofs
open Go.cu
attribute [local irreducible] AK ai bw
theorem nB (l:List Ty) (p:Ty->Bool) (f:FuncId) (W:List CV) (T:∀x∈l,ah f (eC x::W) (.bool (p x))) (Y:l.length<=1099511627776) :
  ah 90 [.sl 2 (aE l),.rK f W] (.bool (l.any p)):=by
 refine qn Tryz.func90 Tryz.call90 fun β hf=>?_
 repeat' (first|refine sz ?_|refine uC rfl (EH l p f W T Y) ?_)
 rw[zK]
theorem FA (p:Int->Bool):∀(l:List Ty),(!(l.any fun x => !sD p x))=nY p l
 | []=>rfl
 | t::l=>by simp only[nY,<- FA p l,List.any_cons];cases sD p t<;>simp
set_option maxHeartbeats 1000000 in
theorem z8 (p:Int->Bool) (f:FuncId) (caps:List CV) (hp:∀n:Int,ah f (.int .i64 n::caps) (.bool (p n))) :
  ∀(t:Ty),bC t<=1099511627776->ah 58 [eC t,.rK f caps] (.bool (sD p t))
 | .mk T args,ht=>by
  simp only[bC]at ht;have Gv:=iG args;have hin:∀x∈args,ah 91 (eC x::[.ip [.rK f caps]]) (.bool (!sD p x)):=by
   intro x hx;have BE:=z8 p f caps hp x (by have:=cF hx;omega);obtain⟨T',args'⟩:=x;refine qn Tryz.func91 Tryz.call91 fun β hf=>?_
   repeat' (first|refine sz ?_|refine uC rfl BE ?_)
   rfl
  refine qn Tryz.func58 Tryz.call58 fun β hf=>?_;refine AK.seq ?_;refine AK.region Tryz.mixed rfl ?_
  repeat' (first|refine so ?_|((first|refine zt ?_|refine zu ?_ ?_)<;>intro h<;>(fail_if_success (cases h;done))<;>rw[h]))
  refine AK.freeze 3 rfl rfl rfl rfl ?_
  repeat' (first|refine sz ?_|refine uC rfl (hp T) ?_|refine uC rfl (nB args (fun x => !sD p x) _ _ hin bn) ?_|((first|refine zt ?_|refine zu ?_ ?_)<;>intro h<;>(fail_if_success (cases h;done))<;>rw[h]))
  ·simp only[sD,<- FA,h,Bool.true_and,cond_true]
  ·simp only[sD,h,Bool.false_and]
termination_by t=>SizeOf.sizeOf t
decreasing_by
 have:=List.sizeOf_lt_of_mem hx;simp at this ⊢;omega
end Go.Proofs
namespace Go.Proofs
open Go.cu
attribute [local irreducible] AK ai bw
theorem dO {α:Type} {l:List α} {i:Nat} {x:α} (h:l[i]?=some x):l.drop i=x::l.drop (i+1):=by
 obtain⟨h1,h2⟩:=List.getElem?_eq_some_iff.1 h;rw[List.drop_eq_getElem_cons h1,h2]
theorem bD {α:Type} {l:List α} {i:Nat} {x:α} (h:l[i]?=some x):i<l.length:=(List.getElem?_eq_some_iff.1 h).1
theorem gf {α:Type} (l:List α) (i:Nat) (W:i<=l.length):(∃x,l[i]?=some x/\x∈l)\/i=l.length:=by
 rcases Nat.lt_or_ge i l.length with h|h
 ·exact .inl ⟨l[i],nt,List.getElem_mem h⟩
 ·right;omega
theorem fQ {l:List Ty} {i:Nat} {x:Ty} (h:l[i]?=some x):(aE l)[i]?=some (eC x):=by rw[xC,h];rfl
theorem dec_lt {a b:Int} (h:a<b):decide (a<b)=true:=aan h
theorem Gz {a b:Int} (h:b<=a):decide (a<b)=false:=aaw (by omega)
theorem Gx {l:List Ty} {i:Nat} {x:Ty} (h:l[i]?=some x):decide (((i:Nat):Int)<(((aE l).length:Nat):Int))=true:=dec_lt (by have:=bD h;rw[aY];omega)
theorem BT {l:List Ty} {i:Nat} (h:i=l.length):decide (((i:Nat):Int)<(((aE l).length:Nat):Int))=false:=Gz (by rw[aY];omega)
theorem Jt (n:Int):ah 59 [.int .i64 n] (.bool (yJ n)):=by
 refine qn Tryz.func59 Tryz.call59 fun β hf=>?_
 repeat' (first|refine sz ?_|refine uC rfl (uc n) ?_|((first|refine zt ?_|refine zu ?_ ?_)<;>intro h<;>(fail_if_success (cases h;done))<;>rw[h]))
 all_goals simp_all [yJ]
theorem Ju (n:Int):ah 97 [.int .i64 n] (.bool (rM n)):=by
 refine qn Tryz.func97 Tryz.call97 fun β hf=>?_
 repeat' (first|refine sz ?_|((first|refine zt ?_|refine zu ?_ ?_)<;>intro h<;>(fail_if_success (cases h;done))<;>rw[h]))
 all_goals simp_all [rM]
theorem kK (t:Ty) (M:bC t<=1099511627776):ah 46 [eC t] (.bool (fG t)):=by
 have hq:=z8 yJ 59 [] Jt t M;obtain⟨T,args⟩:=t;refine qn Tryz.func46 Tryz.call46 fun β hf=>?_
 repeat' (first|refine sz ?_|refine uC rfl hq ?_)
 rfl
theorem mB (t:Ty) (M:bC t<=1099511627776):ah 64 [eC t] (.bool (gh t)):=by
 have hq:=z8 rM 97 [] Ju t M;obtain⟨T,args⟩:=t;refine qn Tryz.func64 Tryz.call64 fun β hf=>?_
 repeat' (first|refine sz ?_|refine uC rfl hq ?_)
 rfl
theorem xD (p:Int->Bool):∀(l:List Ty),(!(l.any fun x => !C5 p x))=G1 p l
 | []=>rfl
 | t::l=>by simp only[G1,<- xD p l,List.any_cons];cases C5 p t<;>simp
set_option maxHeartbeats 1000000 in
theorem sG:∀(t:Ty),bC t<=1099511627776->ah 93 [eC t] (.bool (lE t))
 | .mk T args,ht=>by
  simp only[bC]at ht;have Gv:=iG args;have hin:∀x∈args,ah 125 (eC x::[]) (.bool (!lE x)):=by
   intro x hx;have BE:=sG x (by have:=cF hx;omega);obtain⟨T',args'⟩:=x;refine qn Tryz.func125 Tryz.call125 fun β hf=>?_
   repeat' (first|refine sz ?_|refine uC rfl BE ?_)
   rfl
  have hq:=nB args (fun x => !lE x) 125 [] hin bn;refine qn Tryz.func93 Tryz.call93 fun β hf=>?_
  repeat' (first|refine sz ?_|(refine zc ?_ ?_<;>intro h<;>first|(cases h;done)|rw[h]|skip)|refine uC rfl hq ?_|((first|refine zt ?_|refine zu ?_ ?_)<;>intro h<;>(fail_if_success (cases h;done))<;>rw[h]))
  all_goals
   have ha:=xD R5 args;simp only[lE]at *;simp only[C5,<- ha,R5];simp_all
termination_by t=>SizeOf.sizeOf t
decreasing_by
 have:=List.sizeOf_lt_of_mem hx;simp at this ⊢;omega
set_option maxHeartbeats 1000000 in
theorem yp:∀(t:Ty),bC t<=1099511627776->ah 102 [eC t] (.bool (jv t))
 | .mk T args,ht=>by
  simp only[bC]at ht;have Gv:=iG args;have hin:∀x∈args,ah 130 (eC x::[]) (.bool (!jv x)):=by
   intro x hx;have BE:=yp x (by have:=cF hx;omega);obtain⟨T',args'⟩:=x;refine qn Tryz.func130 Tryz.call130 fun β hf=>?_
   repeat' (first|refine sz ?_|refine uC rfl BE ?_)
   rfl
  have hq:=nB args (fun x => !jv x) 130 [] hin bn;refine qn Tryz.func102 Tryz.call102 fun β hf=>?_
  repeat' (first|refine sz ?_|(refine zc ?_ ?_<;>intro h<;>first|(cases h;done)|rw[h]|skip)|refine uC rfl hq ?_|((first|refine zt ?_|refine zu ?_ ?_)<;>intro h<;>(fail_if_success (cases h;done))<;>rw[h]))
  all_goals
   have ha:=xD LY args;simp only[jv]at *;simp only[C5,<- ha,LY];simp_all
termination_by t=>SizeOf.sizeOf t
decreasing_by
 have:=List.sizeOf_lt_of_mem hx;simp at this ⊢;omega
end Go.Proofs
namespace Go.Proofs
open Go.cu
attribute [local irreducible] AK ai bw
abbrev kM (q:List Int):List CV:=q.map fun n => .int .i64 n
theorem ints_at {l:List Int} {i:Nat} {x:Int} (h:l[i]?=some x):(kM l)[i]?=some (.int .i64 x):=by simp[kM,h]
theorem Ue {l:List Int} {i:Nat} {x:Int} (h:l[i]?=some x):decide (((i:Nat):Int)<(((kM l).length:Nat):Int))=true:=dec_lt (by have:=bD h;simp[kM];omega)
theorem QV {l:List Int} {i:Nat} (h:i=l.length):decide (((i:Nat):Int)<(((kM l).length:Nat):Int))=false:=Gz (by simp[kM];omega)
theorem iD {i:Nat} (h:i<1099511627776):some (AV.c (CV.int .i64 (IntKind.i64.wrap ((i:Int)+1))))=some (AV.c (CV.int .i64 ((i+1:Nat):Int))):=by
 rw[gZ bn bn];rfl
end Go.Proofs
