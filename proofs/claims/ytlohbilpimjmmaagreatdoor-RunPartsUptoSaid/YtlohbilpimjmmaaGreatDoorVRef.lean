/- Package value as plain functions: size, has, compare, same; and their laws. What has of touchstoneref says, as plain functions. -/
import Derived.Test.YtlohbilpimjmmaaGreatDoorTPure
set_option linter.unusedVariables false
set_option linter.unusedSimpArgs false
namespace Go.cu
def bS:Ty->Int | .mk T _=>T
def au:Ty->List Ty | .mk _ l=>l
def aD (t:Ty) (i:Nat):Ty:=(au t).getD i lF
def vK:Vl->Int | .mk k _ _ _ _ _ _=>k
def vN:Vl->Int | .mk _ n _ _ _ _ _=>n
def vS:Vl->List UInt8 | .mk _ _ _ s _ _ _=>s
def eo:Vl->List Vl | .mk _ _ _ _ l _ _=>l
def oO:Vl := .mk 0 0 0 [] [] [] []
mutual
def lJ:Vl->Nat
 | .mk _ _ _ s args _ _=>1+s.length/8+jk args
def jk:List Vl->Nat
 | []=>0
 | x::l=>lJ x+jk l
end
mutual
def oK:Vl->Vl->Bool
 | .mk k n a s l t c,.mk k' B p P G S V=>k==k'&&n==B&&a==p&&s==P&&gJ l G&&gN t S&&jU c V
def gJ:List Vl->List Vl->Bool
 | [],[]=>true
 | t::l,u::r=>oK t u&&gJ l r
 | _,_=>false
end
mutual
theorem QF:∀(t u:Vl),oK t u=true↔t=u
 | .mk k n a s l t c,.mk k' B p Y G S P=>by simp[oK,xu l G,mu t S,vD c P,and_assoc]
theorem xu:∀(t u:List Vl),gJ t u=true↔t=u
 | [],[]=>by simp[gJ]
 | [],_::_=>by simp[gJ]
 | _::_,[]=>by simp[gJ]
 | t::l,u::r=>by simp[gJ,QF t u,xu l r]
end
theorem CZ:∀(t u:List Vl),t.length≠u.length->gJ t u=false
 | [],[],h=>by simp at h
 | [],_::_,_=>by simp[gJ]
 | _::_,[],_=>by simp[gJ]
 | t::l,u::r,h=>by simp[gJ,CZ l r lp]
def tT (a b:Int):Int:=if a<b then -1 else if a>b then 1 else 0
def eB (a b:List UInt8):Int:=if Op.bytesLess a b then -1 else if Op.bytesLess b a then 1 else 0
mutual
def dA:Vl->Vl->Int
 | .mk k n a s args H V,.mk k' B C P p Y W =>
  if k=6 then eB s P
  else if k=9 then(if tT args.length p.length=0 then iW args p else tT args.length p.length)
  else if k=11 then iW args p
  else if k=12 then(if tT n B=0 then iW args p else tT n B)
  else tT n B
def iW:List Vl->List Vl->Int
 | x::l,y::r=>if dA x y=0 then iW l r else dA x y
 | _,_=>0
end
def cB:Vl->Bool
 | .mk k n a s args H B =>
  if k=15 then decide (H.length=0/\B.length=0/\s=[])
  else if k=8 then decide (H.length=1/\B.length=0/\s=[])
  else if k=14 then decide (H.length=2/\a=0/\n=0/\s=[]/\args.length=0)
  else if k=6 then decide (H.length=0/\B.length=0/\a=0/\n=0/\args.length=0)
  else decide (H.length=0/\B.length=0/\a=0/\s=[])
def lB (x:Vl):Vl:=(eo x).getD 0 oO
def w9:List Vl->Bool
 | []=>true
 | x::l=>match l with
  | []=>true
  | y::_=>decide (dA (lB x) (lB y)<0)&&w9 l
mutual
def bL:Vl->Ty->Bool
 | .mk k n a s args H B,t =>
  if k≠bS t\/cB (.mk k n a s args H B)=false\/200<s.length then false
  else if k=1\/k=6 then decide (n=0/\args.length=0)
  else if k=2 then decide (0<=n/\n<=1/\args.length=0)
  else if k=3 then decide (-bM<=n/\n<=bM/\args.length=0)
  else if k=4\/k=5 then decide (0<=n/\n<=bM/\args.length=0)
  else if k=7 then decide (0<=n/\n<12/\args.length=0)
  else if k=9 then decide (n=0/\args.length<=1)&&aR args (aD t 0)
  else if k=10 then decide (n=0/\args.length<=24)&&aR args (aD t 0)
  else if k=11 then decide (n=0/\args.length=2)&&cX args (au t)
  else if k=12 then decide (0<=n/\n<=1/\args.length=1)&&aR args (aD t n.toNat)
  else if k=13 then decide (n=0/\args.length<=24)&&aR args (.mk 11 (au t))&&w9 args
  else if k=14 then cP (aD t 0) (H.getD 0 lF)&&cP (aD t 1) (H.getD 1 lF)
  else if k=15 then decide (1<=n/\n<=bM/\0<=a/\a<12/\args.length=1)&&aR args (aD t 0)
  else if k=8 then decide (0<=n/\n<=bM/\0<=a/\a<12/\args.length=1)&&bA (H.getD 0 lF)&&aR args (H.getD 0 lF)
  else false
def aR:List Vl->Ty->Bool
 | [],_=>true
 | x::l,t=>bL x t&&aR l t
def cX:List Vl->List Ty->Bool
 | x::l,t::r=>bL x t&&cX l r
 | _,_=>true
end
def pI (t:Ty) (v:Vl):Bool:=bA t&&bL v t
theorem fh (t:Ty):∀(l:List Vl),aR l t=true↔∀x∈l,bL x t=true
 | []=>by simp[aR]
 | x::l=>by simp[aR,fh t l]
def aak (t:Ty) (a b:Vl):Int×Int:=if pI t a=true/\pI t b=true/\fG t=true then(dA a b,0)else(0,5)
theorem VH (a b:Int):tT a b = -tT b a:=by unfold tT;split<;>split<;>(try split)<;>omega
theorem wG (a b:Int) : -1<=tT a b/\tT a b<=1:=by unfold tT;split<;>(try split)<;>omega
theorem mX {a b:Int}:tT a b=0↔a=b:=by unfold tT;split<;>(try split)<;>omega
def K2 (x y z:Int):Prop:=(x<=0->y<=0->z<=0/\(z=0↔x=0/\y=0))/\(x>=0->y>=0->z>=0/\(z=0↔x=0/\y=0))
theorem TR (a b c:Int):K2 (tT a b) (tT b c) (tT a c):=by
 unfold K2 tT;constructor<;>intro h1 h2<;>split at h1<;>split at h2<;>split<;>(try split at h1)<;>(try split at h2)<;>(try split)<;>omega
theorem Bz:∀(a:List UInt8),Op.bytesLess a a=false
 | []=>rfl
 | x::a=>by simp[Op.bytesLess,Bz a]
theorem En:∀(a b:List UInt8),Op.bytesLess a b=true->Op.bytesLess b a=false
 | [],[],h=>by simp[Op.bytesLess]at h
 | [],_::_,_=>rfl
 | _::_,[],h=>by simp[Op.bytesLess]at h
 | x::a,y::b,h=>by
  simp only[Op.bytesLess,aay,decide_eq_true_eq,aaj,beq_iff_eq]at h;simp only[Op.bytesLess,Bool.or_eq_false_iff,decide_eq_false_iff_not,Bool.and_eq_false_iff];rw[UInt8.lt_iff_toNat_lt]at *;rcases h with h|⟨rfl,h⟩
  ·grind
  ·exact⟨bn,.inr (En a b h)⟩
theorem Eo:∀(a b:List UInt8),Op.bytesLess a b=false->Op.bytesLess b a=false->a=b
 | [],[],_,_=>rfl
 | [],_::_,h,_=>by simp[Op.bytesLess]at h
 | _::_,[],_,h=>by simp[Op.bytesLess]at h
 | x::a,y::b,h,h'=>by
  simp only[Op.bytesLess,Bool.or_eq_false_iff,decide_eq_false_iff_not,Bool.and_eq_false_iff,beq_eq_false_iff_ne,UInt8.lt_iff_toNat_lt]at h h';have e:x=y:=UInt8.toNat_inj.1 bn;subst e;rw[Eo a b (by simpa using h.2) (by simpa using h'.2)]
theorem Ep:∀(a b c:List UInt8),Op.bytesLess a b=true->Op.bytesLess b c=true->Op.bytesLess a c=true
 | _,[],[],_,h=>by simp[Op.bytesLess]at h
 | _,_::_,[],_,h=>by simp[Op.bytesLess]at h
 | _,[],_::_,h,_=>by simp[Op.bytesLess]at h
 | [],_::_,_::_,_,_=>rfl
 | x::a,y::b,z::c,h,Y=>by
  simp only[Op.bytesLess,aay,decide_eq_true_eq,aaj,beq_iff_eq,UInt8.lt_iff_toNat_lt]at h Y ⊢;rcases h with h|⟨rfl,h⟩
  ·grind
  ·rcases Y with Y|⟨rfl,Y⟩
   ·left;exact Y
   ·right;exact⟨rfl,Ep a b c h Y⟩
theorem nJ (a b:List UInt8):eB a b = -eB b a:=by
 unfold eB;cases h:Op.bytesLess a b
 ·grind
 ·rw[En a b h];simp
theorem zE (a b:List UInt8) : -1<=eB a b/\eB a b<=1:=by unfold eB;split<;>(try split)<;>omega
theorem vE {a b:List UInt8}:eB a b=0↔a=b:=by
 constructor
 ·intro h;unfold eB at h;cases h1:Op.bytesLess a b
  ·cases h2:Op.bytesLess b a
   ·exact Eo a b h1 h2
   ·simp_all
  ·simp_all
 ·rintro rfl;simp[eB,Bz]
theorem AO {a b:List UInt8}:eB a b<0↔Op.bytesLess a b=true:=by
 unfold eB;cases h:Op.bytesLess a b<;>simp;split<;>omega
theorem K3 (a b c:List UInt8):K2 (eB a b) (eB b c) (eB a c):=by
 have Y:∀a b c,eB a b<=0->eB b c<=0->eB a c<=0/\(eB a c=0↔eB a b=0/\eB b c=0):=by
  intro a b c h1 h2;by_cases A:eB a b=0
  ·obtain rfl:=vE.1 A;exact⟨h2,by simp[A]⟩
  ·by_cases E:eB b c=0
   ·obtain rfl:=vE.1 E;exact⟨h1,by simp[E]⟩
   ·have U:=AO.1 (show eB a b<0 by omega);have p:=AO.1 (show eB b c<0 by omega);have K:=AO.2 (Ep _ _ _ U p);exact⟨bn,by simp[A];omega⟩
 refine⟨Y a b c,fun h1 h2=>?_⟩;have:=Y c b a (by rw[nJ];omega) (by rw[nJ];omega);have S:=nJ a b;have G:=nJ b c;have W:=nJ a c;refine⟨bn,?_⟩;constructor
 ·omega
 ·omega
theorem QG {x y z D Y W:Int} (h:K2 x y z) (V:x=0->y=0->K2 D Y W):K2 (if x=0 then D else x) (if y=0 then Y else y) (if z=0 then W else z):=by
 unfold K2 at *;by_cases ex:x=0
 ·omega
 ·omega
def Is:List Vl->List Ty->Prop
 | [],_=>True
 | x::l,t::r=>bL x t=true/\fG t=true/\gq t=false/\Is l r
 | _::_,[]=>False
theorem dz:∀{l:List Ty} {x:Ty},mz l=false->x∈l->gq x=false
 | [],_,_,h=>by simp at h
 | t::l,x,hb,h=>by
  simp only[mz,Bool.or_eq_false_iff]at hb;rcases List.mem_cons.1 h with rfl|h
  ·exact hb.1
  ·exact dz hb.2 h
theorem rN {p:Int->Bool}:∀{l:List Ty} {x:Ty},nY p l=true->x∈l->sD p x=true
 | [],_,_,h=>by simp at h
 | t::l,x,hb,h=>by
  simp only[nY,aaj]at hb;rcases List.mem_cons.1 h with rfl|h
  ·exact hb.1
  ·exact rN hb.2 h
theorem kO {t:Ty} {i:Nat} (h:i<(au t).length):aD t i∈au t:=by
 unfold aD;rw[List.getD_eq_getElem?_getD,List.getElem?_eq_getElem h];exact List.getElem_mem h
theorem iF {t:Ty} (h:gq t=false):arity (bS t)=(au t).length/\mz (au t)=false:=by
 cases t with|mk T l=>simpa[gq,bS,au]using h
theorem ya {t:Ty} (h:fG t=true):yJ (bS t)=true/\nY yJ (au t)=true:=by
 cases t with|mk T l=>simpa[fG,sD,bS,au]using h
theorem K4 {t:Ty} (E:fG t=true) (p:gq t=false) {i:Nat} (h:(i:Int)<arity (bS t)):fG (aD t i)=true/\gq (aD t i)=false:=by
 have h1:=iF p;have h2:=ya E;have u:aD t i∈au t:=kO bn;exact⟨rN h2.2 u,dz h1.2 u⟩
theorem K5 {l:List Vl} {t:Ty} (C:l.length<=1) (h:aR l t=true) (E:fG t=true) (p:gq t=false):Is l [t]:=by
 cases l with
 | nil=>trivial
 | cons x l =>
  cases l with
  | nil=>simp only[aR,aaj]at h;exact⟨h.1,E,p,trivial⟩
  | cons y l=>simp at C
theorem K6:∀{l:List Vl} {ts:List Ty},l.length=ts.length->cX l ts=true->nY yJ ts=true->mz ts=false->Is l ts
 | [],_,_,_,_,_=>trivial
 | x::l,[],h,_,_,_=>by simp at h
 | x::l,t::ts,h,I,E,p=>by
  simp only[cX,aaj]at I;simp only[nY,aaj]at E;simp only[mz,Bool.or_eq_false_iff]at p;exact⟨I.1,E.1,p.1,K6 lp I.2 E.2 p.2⟩
theorem K7 {T:Int} (h:yJ T=true):T=1\/T=2\/T=3\/T=4\/T=5\/T=6\/T=7\/T=9\/T=11\/T=12:=by
 have h1:T≠8/\T≠10/\T≠13/\T≠14/\T≠15/\arity T>=0:=by
  simp only[yJ,aaj,bne_iff_ne,decide_eq_true_eq,ne_eq]at h;exact⟨h.1.1.1.1.1,h.1.1.1.1.2,h.1.1.1.2,h.1.1.2,h.1.2,h.2⟩
 have h2:=h1.2.2.2.2.2;unfold arity at h2;split at h2
 ·omega
 ·omega
theorem oW {k n a:Int} {s:List UInt8} {args:List Vl} {H:List Ty} {B:List Nd} {t:Ty} (h:bL (.mk k n a s args H B) t=true):k=bS t/\cB (.mk k n a s args H B)=true/\s.length<=200:=by
 by_cases E:k≠bS t\/cB (.mk k n a s args H B)=false\/200<s.length
 ·simp only[bL,if_pos E]at h;simp at h
 ·grind
theorem AP {k n a:Int} {s:List UInt8} {args:List Vl} {H:List Ty} {B:List Nd} {t:Ty} (h:bL (.mk k n a s args H B) t=true) (E:fG t=true) (p:gq t=false) :
  k=bS t/\a=0/\H=[]/\B=[]/\(k=6/\n=0/\args=[]\/(k≠6/\k≠9/\k≠11/\k≠12)/\s=[]/\args=[]\/k=9/\n=0/\s=[]/\args.length<=1/\Is args [aD t 0] \/
   k=11/\n=0/\s=[]/\args.length=2/\Is args (au t)\/k=12/\s=[]/\args.length=1/\Is args [aD t n.toNat]):=by
 obtain⟨h1,h2,Q⟩:=oW h;have D:=K7 (ya E).1;rw[<- h1]at D;have U:¬(k≠bS t\/cB (.mk k n a s args H B)=false\/200<s.length):=by simp_all
 simp only[bL,if_neg U]at h;have T:=(iF p).1;rw[<- h1]at T;simp only[cB]at h2;rcases D with rfl|rfl|rfl|rfl|rfl|rfl|rfl|rfl|rfl|rfl
 all_goals simp at h h2
 ·grind
 ·grind
 ·grind
 ·grind
 ·grind
 ·simp_all
 ·grind
 ·obtain⟨S,A,W,V⟩:=h2;have Y:=K4 E p (i:=0) (by rw[<- h1];decide);exact⟨h1,W,S,A,.inr (.inr (.inl ⟨rfl,h.1.1,V,h.1.2,K5 h.1.2 h.2 Y.1 Y.2⟩))⟩
 ·obtain⟨S,A,W,V⟩:=h2;have e:(au t).length=2:=by(have:arity 11=2:=by decide);omega
  exact⟨h1,W,S,A,.inr (.inr (.inr (.inl ⟨rfl,h.1.1,V,h.1.2,K6 bn h.2 (ya E).2 (iF p).2⟩)))⟩
 ·obtain⟨S,A,W,V⟩:=h2;have Y:=K4 E p (i:=n.toNat) (by(rw[<- h1];have:arity 12=2:=by decide);omega);exact⟨h1,W,S,A,.inr (.inr (.inr (.inr ⟨rfl,V,h.1.2.2,K5 bn h.2 Y.1 Y.2⟩)))⟩
structure qS (x u y z:Int) (e:Prop):Prop where
 neg:x = -u
 lo : -1<=x
 hi:x<=1
 zero:x=0↔e
 Vg:K2 x y z
theorem qS.tT (a b c:Int) {e:Prop} (P:a=b↔e):qS (tT a b) (Go.cu.tT b a) (Go.cu.tT b c) (Go.cu.tT a c) e:=⟨VH a b,(wG a b).1,(wG a b).2,mX.trans P,TR a b c⟩
theorem qS.then {x u y z D M V U:Int} {e e' Y:Prop} (h:qS x u y z e) (T:x=0->y=0->qS D M V U e') (h2:x=0->D = -M /\ -1<=D/\D<=1/\(D=0↔e')) (P:e/\e'↔Y) :
  qS (if x=0 then D else x) (if u=0 then M else u) (if y=0 then V else y) (if z=0 then U else z) Y:=by
 have N:=h.neg;refine⟨?_,?_,?_,?_,QG h.Vg fun h1 S=>(T h1 S).Vg⟩
 ·by_cases O:x=0
  ·rw[if_pos O,if_pos bn];exact(h2 O).1
  ·rw[if_neg O,if_neg bn];exact N
 ·by_cases O:x=0
  ·rw[if_pos O];exact(h2 O).2.1
  ·rw[if_neg O];exact h.lo
 ·by_cases O:x=0
  ·rw[if_pos O];exact(h2 O).2.2.1
  ·rw[if_neg O];exact h.hi
 ·by_cases O:x=0
  ·rw[if_pos O,(h2 O).2.2.2,<- P];simp[h.zero.1 O]
  ·rw[if_neg O,<- P];constructor
   ·intro W;exact absurd W O
   ·intro W;exact absurd (h.zero.2 W.1) O
mutual
theorem zo:∀(a b c:Vl) (t:Ty),fG t=true->gq t=false->bL a t=true->bL b t=true->bL c t=true->qS (dA a b) (dA b a) (dA b c) (dA a c) (a=b)
 | .mk k n a s args G A,.mk k' n' a' s' p H C,.mk k2 n2 a2 s2 N bt bI,t,K,V,h1,h2,h3=>by
  obtain⟨e1,rfl,rfl,rfl,f1⟩:=AP h1 K V;obtain⟨e2,rfl,rfl,rfl,U⟩:=AP h2 K V;obtain⟨e3,rfl,rfl,rfl,I⟩:=AP h3 K V;obtain rfl:k'=k:=by rw[e1,e2]
  obtain rfl:k2=k':=by rw[e2,e3]
  rcases f1 with ⟨g0,g1,u⟩|⟨g0,g1,u⟩|⟨g0,g1,u,g3,P⟩|⟨g0,g1,u,g3,P⟩|⟨g0,u,g3,P⟩
  ·rcases U with ⟨q,D,J⟩|⟨q,_⟩|⟨q,_⟩|⟨q,_⟩|⟨q,_⟩<;>first|omega|skip
   rcases I with ⟨_,E,W⟩|⟨Q,_⟩|⟨Q,_⟩|⟨Q,_⟩|⟨Q,_⟩<;>first|omega|skip
   subst g1 u D J E W;simp only[dA,if_pos g0];exact⟨nJ _ _,(zE _ _).1,(zE _ _).2,by simp[vE],K3 _ _ _⟩
  ·rcases U with ⟨q,_⟩|⟨q,D,J⟩|⟨q,_⟩|⟨q,_⟩|⟨q,_⟩<;>first|omega|skip
   rcases I with ⟨Q,_⟩|⟨Q,E,W⟩|⟨Q,_⟩|⟨Q,_⟩|⟨Q,_⟩<;>first|omega|skip
   subst g1 u D J E W;simp only[dA,if_neg g0.1,if_neg g0.2.1,if_neg g0.2.2.1,if_neg g0.2.2.2];exact qS.tT n n' n2 cn
  ·rcases U with ⟨q,_⟩|⟨q,_⟩|⟨q,D,J,m3,M⟩|⟨q,_⟩|⟨q,_⟩<;>first|omega|skip
   rcases I with ⟨Q,_⟩|⟨Q,_⟩|⟨Q,E,W,l3,T⟩|⟨Q,_⟩|⟨Q,_⟩<;>first|omega|skip
   subst g1 u D J E W g0;simp only[dA,show ¬((9:Int)=6)from by omega,if_false,if_true];refine qS.then (qS.tT _ _ _ (Iff.rfl)) (fun Y B=>?_) (fun Y=>?_) (e':=args=p) ?_
   ·have S:=mX.1 Y;have y2:=mX.1 B;exact sC args p N _ P M T bn bn
   ·have S:=mX.1 Y;have:=sC args p p _ P M M bn rfl;exact⟨this.neg,this.lo,this.hi,this.zero⟩
   ·constructor
    ·rintro⟨_,rfl⟩;rfl
    ·intro h;simp at h;exact⟨by rw[h],h⟩
  ·rcases U with ⟨q,_⟩|⟨q,_⟩|⟨q,_⟩|⟨q,D,J,m3,M⟩|⟨q,_⟩<;>first|omega|skip
   rcases I with ⟨Q,_⟩|⟨Q,_⟩|⟨Q,_⟩|⟨Q,E,W,l3,T⟩|⟨Q,_⟩<;>first|omega|skip
   subst g1 u D J E W g0;simp only[dA,show ¬((11:Int)=6)from by omega,show ¬((11:Int)=9)from by omega,if_false,if_true];have:=sC args p N _ P M T bn bn;exact⟨this.neg,this.lo,this.hi,by rw[this.zero];simp,this.Vg⟩
  ·rcases U with ⟨q,_⟩|⟨q,_⟩|⟨q,_⟩|⟨q,_⟩|⟨q,J,m3,M⟩<;>first|omega|skip
   rcases I with ⟨Q,_⟩|⟨Q,_⟩|⟨Q,_⟩|⟨Q,_⟩|⟨Q,W,l3,T⟩<;>first|omega|skip
   subst u J W g0;simp only[dA,show ¬((12:Int)=6)from by omega,show ¬((12:Int)=9)from by omega,show ¬((12:Int)=11)from by omega,if_false,if_true];refine qS.then (qS.tT _ _ _ (Iff.rfl)) (fun Y B=>?_) (fun Y=>?_) (e':=args=p) ?_
   ·have S:=mX.1 Y;have y2:=mX.1 B;subst S y2;exact sC args p N _ P M T bn bn
   ·have S:=mX.1 Y;subst S;have:=sC args p p _ P M M bn rfl;exact⟨this.neg,this.lo,this.hi,this.zero⟩
   ·simp
theorem sC:∀(a b c:List Vl) (ts:List Ty),Is a ts->Is b ts->Is c ts->a.length=b.length->b.length=c.length->qS (iW a b) (iW b a) (iW b c) (iW a c) (a=b)
 | [],[],[],ts,_,_,_,_,_=>by simp only[iW];exact⟨rfl,bn,bn,cn,⟨fun _ _=>by simp,fun _ _=>by simp⟩⟩
 | [],_::_,_,_,_,_,_,h,_=>by simp at h
 | _::_,[],_,_,_,_,_,h,_=>by simp at h
 | [],[],_::_,_,_,_,_,_,h=>by simp at h
 | _::_,_::_,[],_,_,_,_,_,h=>by simp at h
 | x::a,y::b,z::c,[],h,_,_,_,_=>h.elim
 | x::a,y::b,z::c,t::ts,ha,V,K,h1,h2=>by
  have hx:=zo x y z t ha.2.1 ha.2.2.1 ha.1 V.1 K.1;have O:=sC a b c ts ha.2.2.2 V.2.2.2 K.2.2.2 Vf uG;simp only[iW];refine qS.then hx (fun _ _=>O) (fun _=>⟨O.neg,O.lo,O.hi,O.zero⟩) cn
end
mutual
def aal:Vl->Vl->Int
 | .mk k n a s args H B,.mk k' V C P p Y W =>
  if(if k=9 then(args.length:Int)else n)<(if k=9 then(p.length:Int)else V)\/Op.bytesLess s P=true then -1
  else if(if k=9 then(args.length:Int)else n)>(if k=9 then(p.length:Int)else V)\/Op.bytesLess P s=true then 1
  else Wy args p
def Wy:List Vl->List Vl->Int
 | x::l,y::r=>if aal x y=0 then Wy l r else aal x y
 | _,_=>0
end
end Go.cu
namespace Go.cu
mutual
def Kl:Ty->Bool
 | .mk T args=>(if T=13\/T=15 then kg args else true)&&Iu args
def Iu:List Ty->Bool
 | []=>true
 | t::l=>Kl t&&Iu l
end
mutual
theorem Gs:∀(t:Ty) (d n:Int),(eR t d n).1=true->Kl t=true
 | .mk T args,d,n,h=>by
  simp only[eR]at h;split at h
  ·cases h
  ·rcases I:dM args (d+1) (n+1)with ⟨b,m⟩
   rw[I]at h;cases b
   ·cases h
   ·have:=Er args (d+1) (n+1) (by rw[I]);simp only[Kl,this,Bool.and_true];exact h
theorem Er:∀(l:List Ty) (d n:Int),(dM l d n).1=true->Iu l=true
 | [],_,_,_=>rfl
 | t::l,d,n,h=>by
  simp only[dM]at h;rcases I:eR t d n with ⟨b,m⟩
  rw[I]at h;cases b
  ·cases h
  ·have h1:=Gs t d n (by rw[I]);have h2:=Er l d m h;simp[Iu,h1,h2]
end
theorem MS {t:Ty} (h:bA t=true):Kl t=true:=Gs t 1 0 h
def nh (k n a:Int) (args:List Vl) (H:List Ty) (t:Ty):Bool :=
  if k=1\/k=6 then decide (n=0/\args.length=0)
  else if k=2 then decide (0<=n/\n<=1/\args.length=0)
  else if k=3 then decide (-bM<=n/\n<=bM/\args.length=0)
  else if k=4\/k=5 then decide (0<=n/\n<=bM/\args.length=0)
  else if k=7 then decide (0<=n/\n<12/\args.length=0)
  else if k=9 then decide (n=0/\args.length<=1)&&aR args (aD t 0)
  else if k=10 then decide (n=0/\args.length<=24)&&aR args (aD t 0)
  else if k=11 then decide (n=0/\args.length=2)&&cX args (au t)
  else if k=12 then decide (0<=n/\n<=1/\args.length=1)&&aR args (aD t n.toNat)
  else if k=13 then decide (n=0/\args.length<=24)&&aR args (.mk 11 (au t))&&w9 args
  else if k=14 then cP (aD t 0) (H.getD 0 lF)&&cP (aD t 1) (H.getD 1 lF)
  else if k=15 then decide (1<=n/\n<=bM/\0<=a/\a<12/\args.length=1)&&aR args (aD t 0)
  else if k=8 then decide (0<=n/\n<=bM/\0<=a/\a<12/\args.length=1)&&bA (H.getD 0 lF)&&aR args (H.getD 0 lF)
  else false
theorem Ug (k n a:Int) (s:List UInt8) (args:List Vl) (H:List Ty) (B:List Nd) (t:Ty):bL (.mk k n a s args H B) t=((k==bS t)&&(cB (.mk k n a s args H B)&&(decide (s.length<=200)&&nh k n a args H t))):=by
 by_cases h:k≠bS t\/cB (.mk k n a s args H B)=false\/200<s.length
 ·simp only[bL,if_pos h];rcases h with h|h|h
  ·simp_all
  ·rw[h];simp
  ·grind
 ·simp only[bL,if_neg h];simp only[not_or,ne_eq,Decidable.not_not,Bool.not_eq_false,Nat.not_lt]at h;rw[h.2.1,show(k==bS t)=true from by simpa using h.1,show decide (s.length<=200)=true from by simpa using h.2.2];rfl
def ad4 (v:Vl) (Y W bs:Bool) (args H:Int) (V:Bool):Bool:=match v with
 | .mk _ n a s l ts B=>(Y||n==0)&&((W||a==0)&&((bs||s.isEmpty)&&(decide ((l.length:Int)=args)&&(decide ((ts.length:Int)=H)&&(V||decide (B.length=0))))))
end Go.cu
