/- Package value as plain functions: -/
import Derived.Test.YtdnpapgijbhofaaGreatDoorTPure
set_option linter.defProp false
set_option linter.unusedVariables false
set_option linter.unusedSimpArgs false
namespace Go.cM
def bM:Ty->Int | .mk T _=>T
def aq:Ty->L Ty | .mk _ l=>l
def aD(t:Ty)(i:Nat):Ty:=(aq t).getD i kG
def vK:Vl->Int | .mk k _ _ _ _ _ _=>k
def vN:Vl->Int | .mk _ n _ _ _ _ _=>n
def vS:Vl->L UInt8 | .mk _ _ _ s _ _ _=>s
def fh:Vl->L Vl | .mk _ _ _ _ l _ _=>l
def nE:Vl := .mk 0 0 0 [] [] [] []
mutual
def kK:Vl->Nat
 |.mk _ _ _ s J _ _=>1+s.length/8+iG J
def iG:L Vl->Nat
 |[]=>0
 |x::l=>kK x+iG l
end
mutual
def Nm:Vl->Vl->Bool
 |.mk k n a s l t c,.mk k' W Y U V T J=>k==k'&&n==W&&a==Y&&s==U&&GK l V&&gG t T&&xV c J
def GK:L Vl->L Vl->Bool
 |[],[]=>true
 |t::l,u::r=>Nm t u&&GK l r
 |_,_=>false
end
def sG(a b:Int):Int:=if a<b then -1 else if a>b then 1 else 0
def ep(a b:L UInt8):Int:=if Op.bytesLess a b then -1 else if Op.bytesLess b a then 1 else 0
mutual
def dj:Vl->Vl->Int
 |.mk k n a s J G E,.mk k' W T U M Y V =>
  if k=6 then ep s U
  else if k=9 then(if sG J.length M.length=0 then iy J M else sG J.length M.length)
  else if k=11 then iy J M
  else if k=12 then(if sG n W=0 then iy J M else sG n W)
  else sG n W
def iy:L Vl->L Vl->Int
 |x::l,y::r=>if dj x y=0 then iy l r else dj x y
 |_,_=>0
end
def cq:Vl->Bool
 |.mk k n a s J Y W =>
  if k=15 then decide (Y.length=0/\W.length=0/\s=[])
  else if k=8 then decide (Y.length=1/\W.length=0/\s=[])
  else if k=14 then decide (Y.length=2/\a=0/\n=0/\s=[]/\J.length=0)
  else if k=6 then decide (Y.length=0/\W.length=0/\a=0/\n=0/\J.length=0)
  else decide (Y.length=0/\W.length=0/\a=0/\s=[])
def kC(x:Vl):Vl:=(fh x).getD 0 nE
def vD:L Vl->Bool
 |[]=>true
 |x::l=>match l with
  |[]=>true
  |y::_=>decide (dj (kC x) (kC y)<0)&&vD l
mutual
def bE:Vl->Ty->Bool
 |.mk k n a s J Y W,t =>
  if k≠bM t\/cq (.mk k n a s J Y W)=false\/200<s.length then false
  else if k=1\/k=6 then decide (n=0/\J.length=0)
  else if k=2 then decide (0<=n/\n<=1/\J.length=0)
  else if k=3 then decide (-bL<=n/\n<=bL/\J.length=0)
  else if k=4\/k=5 then decide (0<=n/\n<=bL/\J.length=0)
  else if k=7 then decide (0<=n/\n<12/\J.length=0)
  else if k=9 then decide (n=0/\J.length<=1)&&aP J (aD t 0)
  else if k=10 then decide (n=0/\J.length<=24)&&aP J (aD t 0)
  else if k=11 then decide (n=0/\J.length=2)&&cV J (aq t)
  else if k=12 then decide (0<=n/\n<=1/\J.length=1)&&aP J (aD t n.toNat)
  else if k=13 then decide (n=0/\J.length<=24)&&aP J (.mk 11 (aq t))&&vD J
  else if k=14 then cP (aD t 0) (Y.getD 0 kG)&&cP (aD t 1) (Y.getD 1 kG)
  else if k=15 then decide (1<=n/\n<=bL/\0<=a/\a<12/\J.length=1)&&aP J (aD t 0)
  else if k=8 then decide (0<=n/\n<=bL/\0<=a/\a<12/\J.length=1)&&br (Y.getD 0 kG)&&aP J (Y.getD 0 kG)
  else false
def aP:L Vl->Ty->Bool
 |[],_=>true
 |x::l,t=>bE x t&&aP l t
def cV:L Vl->L Ty->Bool
 |x::l,t::r=>bE x t&&cV l r
 |_,_=>true
end
def oA(t:Ty)(v:Vl):Bool:=br t&&bE v t
def eR(t:Ty):∀(l:L Vl),aP l t=true↔∀x∈l,bE x t=true
 |[]=>by simp[aP]
 |x::l=>by simp[aP,eR t l]
def X1(t:Ty)(a b:Vl):Int×Int:=if oA t a=true/\oA t b=true/\fq t=true then(dj a b,0)else(0,5)
def TD(a b:Int):sG a b = -sG b a:=by unfold sG;split<;>split<;>(try split)<;>omega
def ve(a b:Int) : -1<=sG a b/\sG a b<=1:=by unfold sG;split<;>(try split)<;>omega
def mb{a b:Int}:sG a b=0↔a=b:=by unfold sG;split<;>(try split)<;>omega
def Jx(x y z:Int):Prop:=(x<=0->y<=0->z<=0/\(z=0↔x=0/\y=0))/\(x>=0->y>=0->z>=0/\(z=0↔x=0/\y=0))
def RT(a b c:Int):Jx (sG a b) (sG b c) (sG a c):=by
 unfold Jx sG;constructor<;>intro h1 h2<;>split at h1<;>split at h2<;>split<;>(try split at h1)<;>(try split at h2)<;>(try split)<;>omega
def Ai:∀(a:L UInt8),Op.bytesLess a a=false
 |[]=>rfl
 |x::a=>by simp[Op.bytesLess,Ai a]
def C4:∀(a b:L UInt8),Op.bytesLess a b=true->Op.bytesLess b a=false
 |[],[],h=>by simp[Op.bytesLess]at h
 |[],_::_,_=>rfl
 |_::_,[],h=>by simp[Op.bytesLess]at h
 |x::a,y::b,h=>by
  simp only[Op.bytesLess,aaz,Z5,aal,acD]at h;simp only[Op.bytesLess,aaT,abC,Bool.and_eq_false_iff];rw[acg]at *;rcases h with h|⟨rfl,h⟩
  ·grind
  ·exact⟨bn,.inr (C4 a b h)⟩
def C5:∀(a b:L UInt8),Op.bytesLess a b=false->Op.bytesLess b a=false->a=b
 |[],[],_,_=>rfl
 |[],_::_,h,_=>by simp[Op.bytesLess]at h
 |_::_,[],_,h=>by simp[Op.bytesLess]at h
 |x::a,y::b,h,h'=>by
  simp only[Op.bytesLess,aaT,abC,Bool.and_eq_false_iff,beq_eq_false_iff_ne,acg]at h h';have e:x=y:=UInt8.toNat_inj.1 bn;subst e;rw[C5 a b (by simpa using h.2) (by simpa using h'.2)]
def C6:∀(a b c:L UInt8),Op.bytesLess a b=true->Op.bytesLess b c=true->Op.bytesLess a c=true
 |_,[],[],_,h=>by simp[Op.bytesLess]at h
 |_,_::_,[],_,h=>by simp[Op.bytesLess]at h
 |_,[],_::_,h,_=>by simp[Op.bytesLess]at h
 |[],_::_,_::_,_,_=>rfl
 |x::a,y::b,z::c,h,C=>by
  simp only[Op.bytesLess,aaz,Z5,aal,acD,acg]at h C ⊢;rcases h with h|⟨rfl,h⟩
  ·grind
  ·rcases C with C|⟨rfl,C⟩
   ·left;exact C
   ·right;exact⟨Z,C6 a b c h C⟩
def mN(a b:L UInt8):ep a b = -ep b a:=by
 unfold ep;cases h:Op.bytesLess a b
 ·grind
 ·rw[C4 a b h];simp
def x9(a b:L UInt8) : -1<=ep a b/\ep a b<=1:=by unfold ep;split<;>(try split)<;>omega
def ud{a b:L UInt8}:ep a b=0↔a=b:=by
 constructor
 ·intro h;unfold ep at h;cases h1:Op.bytesLess a b
  ·cases h2:Op.bytesLess b a
   ·exact C5 a b h1 h2
   ·simp_all
  ·simp_all
 ·rintro rfl;simp[ep,Ai]
def zp{a b:L UInt8}:ep a b<0↔Op.bytesLess a b=true:=by
 unfold ep;cases h:Op.bytesLess a b<;>simp;split<;>omega
def Jy(a b c:L UInt8):Jx (ep a b) (ep b c) (ep a c):=by
 have Y:∀a b c,ep a b<=0->ep b c<=0->ep a c<=0/\(ep a c=0↔ep a b=0/\ep b c=0):=by
  intro a b c h1 h2;by_cases C:ep a b=0
  ·obtain rfl:=ud.1 C;exact⟨h2,by simp[C]⟩
  ·by_cases Q:ep b c=0
   ·obtain rfl:=ud.1 Q;exact⟨h1,by simp[Q]⟩
   ·have u:=zp.1 (show ep a b<0 by omega);have W:=zp.1 (show ep b c<0 by omega);have U:=zp.2 (C6 _ _ _ u W);exact⟨bn,by simp[C];omega⟩
 refine⟨Y a b c,λh1 h2=>?_⟩;have:=Y c b a (by rw[mN];omega) (by rw[mN];omega);have I:=mN a b;have J:=mN b c;have M:=mN a c;refine⟨bn,?_⟩;constructor
 ·omega
 ·omega
def OK{x y z J Y W:Int}(h:Jx x y z)(C:x=0->y=0->Jx J Y W):Jx (if x=0 then J else x) (if y=0 then Y else y) (if z=0 then W else z):=by
 unfold Jx at *;by_cases ex:x=0
 ·omega
 ·omega
def GL:L Vl->L Ty->Prop
 |[],_=>True
 |x::l,t::r=>bE x t=true/\fq t=true/\fV t=false/\GL l r
 |_::_,[]=>False
def di:∀{l:L Ty}{x:Ty},lX l=false->x∈l->fV x=false
 |[],_,_,h=>by simp at h
 |t::l,x,hb,h=>by
  simp only[lX,aaT]at hb;rcases List.mem_cons.1 h with rfl|h
  ·exact hb.1
  ·exact di hb.2 h
def qR{p:Int->Bool}:∀{l:L Ty}{x:Ty},nh p l=true->x∈l->rH p x=true
 |[],_,_,h=>by simp at h
 |t::l,x,hb,h=>by
  simp only[nh,aal]at hb;rcases List.mem_cons.1 h with rfl|h
  ·exact hb.1
  ·exact qR hb.2 h
def j7{t:Ty}{i:Nat}(h:i<(aq t).length):aD t i∈aq t:=by
 unfold aD;rw[aaS,Zn h];exact abI h
def gT{t:Ty}(h:fV t=false):arity (bM t)=(aq t).length/\lX (aq t)=false:=by
 cases t with|mk T l=>simpa[fV,bM,aq]using h
def wG{t:Ty}(h:fq t=true):wZ (bM t)=true/\nh wZ (aq t)=true:=by
 cases t with|mk T l=>simpa[fq,rH,bM,aq]using h
def Jz{t:Ty}(A:fq t=true)(W:fV t=false){i:Nat}(h:(i:Int)<arity (bM t)):fq (aD t i)=true/\fV (aD t i)=false:=by
 have h1:=gT W;have h2:=wG A;have Y:aD t i∈aq t:=j7 bn;exact⟨qR h2.2 Y,di h1.2 Y⟩
def JA{l:L Vl}{t:Ty}(B:l.length<=1)(h:aP l t=true)(A:fq t=true)(Y:fV t=false):GL l [t]:=by
 cases l with
 |nil=>trivial
 |cons x l =>
  cases l with
  |nil=>simp only[aP,aal]at h;exact⟨h.1,A,Y,trivial⟩
  |cons y l=>simp at B
def JB:∀{l:L Vl}{ts:L Ty},l.length=ts.length->cV l ts=true->nh wZ ts=true->lX ts=false->GL l ts
 |[],_,_,_,_,_=>trivial
 |x::l,[],h,_,_,_=>by simp at h
 |x::l,t::ts,h,E,A,Y=>by
  simp only[cV,aal]at E;simp only[nh,aal]at A;simp only[lX,aaT]at Y;exact⟨E.1,A.1,Y.1,JB q6 E.2 A.2 Y.2⟩
def JC{T:Int}(h:wZ T=true):T=1\/T=2\/T=3\/T=4\/T=5\/T=6\/T=7\/T=9\/T=11\/T=12:=by
 have h1:T≠8/\T≠10/\T≠13/\T≠14/\T≠15/\arity T>=0:=by
  simp only[wZ,aal,abY,Z5,ne_eq]at h;exact⟨h.1.1.1.1.1,h.1.1.1.1.2,h.1.1.1.2,h.1.1.2,h.1.2,h.2⟩
 have h2:=h1.2.2.2.2.2;unfold arity at h2;split at h2
 ·omega
 ·omega
def nU{k n a:Int}{s:L UInt8}{J:L Vl}{Y:L Ty}{W:L Nd}{t:Ty}(h:bE (.mk k n a s J Y W) t=true):k=bM t/\cq (.mk k n a s J Y W)=true/\s.length<=200:=by
 by_cases A:k≠bM t\/cq (.mk k n a s J Y W)=false\/200<s.length
 ·simp only[bE,if_pos A]at h;simp at h
 ·grind
def zq{k n a:Int}{s:L UInt8}{J:L Vl}{G:L Ty}{W:L Nd}{t:Ty}(h:bE (.mk k n a s J G W) t=true)(A:fq t=true)(S:fV t=false) :
  k=bM t/\a=0/\G=[]/\W=[]/\(k=6/\n=0/\J=[]\/(k≠6/\k≠9/\k≠11/\k≠12)/\s=[]/\J=[]\/k=9/\n=0/\s=[]/\J.length<=1/\GL J [aD t 0] \/
   k=11/\n=0/\s=[]/\J.length=2/\GL J (aq t)\/k=12/\s=[]/\J.length=1/\GL J [aD t n.toNat]):=by
 obtain⟨h1,h2,K⟩:=nU h;have D:=JC (wG A).1;rw[<- h1]at D;have Q:¬(k≠bM t\/cq (.mk k n a s J G W)=false\/200<s.length):=by simp_all
 simp only[bE,if_neg Q]at h;have P:=(gT S).1;rw[<- h1]at P;simp only[cq]at h2;rcases D with rfl|rfl|rfl|rfl|rfl|rfl|rfl|rfl|rfl|rfl
 all_goals simp at h h2
 ·grind
 ·grind
 ·grind
 ·grind
 ·grind
 ·simp_all
 ·grind
 ·obtain⟨V,O,U,T⟩:=h2;have Y:=Jz A S (i:=0) (by rw[<- h1];decide);exact⟨h1,U,V,O,.inr (.inr (.inl ⟨Z,h.1.1,T,h.1.2,JA h.1.2 h.2 Y.1 Y.2⟩))⟩
 ·obtain⟨V,O,U,T⟩:=h2;have e:(aq t).length=2:=by(have:arity 11=2:=by decide);omega
  exact⟨h1,U,V,O,.inr (.inr (.inr (.inl ⟨Z,h.1.1,T,h.1.2,JB bn h.2 (wG A).2 (gT S).2⟩)))⟩
 ·obtain⟨V,O,U,T⟩:=h2;have Y:=Jz A S (i:=n.toNat) (by(rw[<- h1];have:arity 12=2:=by decide);omega);exact⟨h1,U,V,O,.inr (.inr (.inr (.inr ⟨Z,T,h.1.2.2,JA bn h.2 Y.1 Y.2⟩)))⟩
structure pY(x u y z:Int)(e:Prop):Prop where
 neg:x = -u
 lo : -1<=x
 hi:x<=1
 zero:x=0↔e
 VR:Jx x y z
def pY.sG(a b c:Int){e:Prop}(S:a=b↔e):pY (sG a b) (Go.cM.sG b a) (Go.cM.sG b c) (Go.cM.sG a c) e:=⟨TD a b,(ve a b).1,(ve a b).2,mb.trans S,RT a b c⟩
def pY.then{x u y z J M V U:Int}{e e' Y:Prop}(h:pY x u y z e)(C:x=0->y=0->pY J M V U e')(h2:x=0->J = -M /\ -1<=J/\J<=1/\(J=0↔e'))(S:e/\e'↔Y) :
  pY (if x=0 then J else x) (if u=0 then M else u) (if y=0 then V else y) (if z=0 then U else z) Y:=by
 have E:=h.neg;refine⟨?_,?_,?_,?_,OK h.VR λh1 K=>(C h1 K).VR⟩
 ·by_cases I:x=0
  ·rw[if_pos I,if_pos bn];exact(h2 I).1
  ·rw[if_neg I,if_neg bn];exact E
 ·by_cases I:x=0
  ·rw[if_pos I];exact(h2 I).2.1
  ·rw[if_neg I];exact h.lo
 ·by_cases I:x=0
  ·rw[if_pos I];exact(h2 I).2.2.1
  ·rw[if_neg I];exact h.hi
 ·by_cases I:x=0
  ·rw[if_pos I,(h2 I).2.2.2,<- S];simp[h.zero.1 I]
  ·rw[if_neg I,<- S];constructor
   ·intro W;exact absurd W I
   ·intro W;exact absurd (h.zero.2 W.1) I
mutual
def xR:∀(a b c:Vl)(t:Ty),fq t=true->fV t=false->bE a t=true->bE b t=true->bE c t=true->pY (dj a b) (dj b a) (dj b c) (dj a c) (a=b)
 |.mk k n a s J P code,.mk k' n' a' s' M Q K,.mk k2 n2 a2 s2 G bl bH,t,p,V,h1,h2,h3=>by
  obtain⟨e1,rfl,rfl,rfl,f1⟩:=zq h1 p V;obtain⟨e2,rfl,rfl,rfl,N⟩:=zq h2 p V;obtain⟨e3,rfl,rfl,rfl,U⟩:=zq h3 p V;obtain rfl:k'=k:=by rw[e1,e2]
  obtain rfl:k2=k':=by rw[e2,e3]
  rcases f1 with ⟨g0,g1,H⟩|⟨g0,g1,H⟩|⟨g0,g1,H,g3,O⟩|⟨g0,g1,H,g3,O⟩|⟨g0,H,g3,O⟩
  ·rcases N with ⟨q,A,B⟩|⟨q,_⟩|⟨q,_⟩|⟨q,_⟩|⟨q,_⟩<;>first|omega|skip
   rcases U with ⟨_,u,W⟩|⟨S,_⟩|⟨S,_⟩|⟨S,_⟩|⟨S,_⟩<;>first|omega|skip
   subst g1 H A B u W;simp only[dj,if_pos g0];exact⟨mN _ _,(x9 _ _).1,(x9 _ _).2,by simp[ud],Jy _ _ _⟩
  ·rcases N with ⟨q,_⟩|⟨q,A,B⟩|⟨q,_⟩|⟨q,_⟩|⟨q,_⟩<;>first|omega|skip
   rcases U with ⟨S,_⟩|⟨S,u,W⟩|⟨S,_⟩|⟨S,_⟩|⟨S,_⟩<;>first|omega|skip
   subst g1 H A B u W;simp only[dj,if_neg g0.1,if_neg g0.2.1,if_neg g0.2.2.1,if_neg g0.2.2.2];exact pY.sG n n' n2 ek
  ·rcases N with ⟨q,_⟩|⟨q,_⟩|⟨q,A,B,m3,Y⟩|⟨q,_⟩|⟨q,_⟩<;>first|omega|skip
   rcases U with ⟨S,_⟩|⟨S,_⟩|⟨S,u,W,l3,T⟩|⟨S,_⟩|⟨S,_⟩<;>first|omega|skip
   subst g1 H A B u W g0;simp only[dj,show ¬((9:Int)=6)from by omega,abg,if_true];refine pY.then (pY.sG _ _ _ (Iff.rfl)) (λI D=>?_) (λI=>?_) (e':=J=M) ?_
   ·have C:=mb.1 I;have y2:=mb.1 D;exact qS J M G _ O Y T bn bn
   ·have C:=mb.1 I;have:=qS J M M _ O Y Y bn Z;exact⟨this.neg,this.lo,this.hi,this.zero⟩
   ·constructor
    ·rintro⟨_,rfl⟩;rfl
    ·intro h;simp at h;exact⟨by rw[h],h⟩
  ·rcases N with ⟨q,_⟩|⟨q,_⟩|⟨q,_⟩|⟨q,A,B,m3,Y⟩|⟨q,_⟩<;>first|omega|skip
   rcases U with ⟨S,_⟩|⟨S,_⟩|⟨S,_⟩|⟨S,u,W,l3,T⟩|⟨S,_⟩<;>first|omega|skip
   subst g1 H A B u W g0;simp only[dj,show ¬((11:Int)=6)from by omega,show ¬((11:Int)=9)from by omega,abg,if_true];have:=qS J M G _ O Y T bn bn;exact⟨this.neg,this.lo,this.hi,by rw[this.zero];simp,this.VR⟩
  ·rcases N with ⟨q,_⟩|⟨q,_⟩|⟨q,_⟩|⟨q,_⟩|⟨q,B,m3,Y⟩<;>first|omega|skip
   rcases U with ⟨S,_⟩|⟨S,_⟩|⟨S,_⟩|⟨S,_⟩|⟨S,W,l3,T⟩<;>first|omega|skip
   subst H B W g0;simp only[dj,show ¬((12:Int)=6)from by omega,show ¬((12:Int)=9)from by omega,show ¬((12:Int)=11)from by omega,abg,if_true];refine pY.then (pY.sG _ _ _ (Iff.rfl)) (λI D=>?_) (λI=>?_) (e':=J=M) ?_
   ·have C:=mb.1 I;have y2:=mb.1 D;subst C y2;exact qS J M G _ O Y T bn bn
   ·have C:=mb.1 I;subst C;have:=qS J M M _ O Y Y bn Z;exact⟨this.neg,this.lo,this.hi,this.zero⟩
   ·simp
def qS:∀(a b c:L Vl)(ts:L Ty),GL a ts->GL b ts->GL c ts->a.length=b.length->b.length=c.length->pY (iy a b) (iy b a) (iy b c) (iy a c) (a=b)
 |[],[],[],ts,_,_,_,_,_=>by simp only[iy];exact⟨Z,bn,bn,ek,⟨λ_ _=>by simp,λ_ _=>by simp⟩⟩
 |[],_::_,_,_,_,_,_,h,_=>by simp at h
 |_::_,[],_,_,_,_,_,h,_=>by simp at h
 |[],[],_::_,_,_,_,_,_,h=>by simp at h
 |_::_,_::_,[],_,_,_,_,_,h=>by simp at h
 |x::a,y::b,z::c,[],h,_,_,_,_=>h.elim
 |x::a,y::b,z::c,t::ts,ha,V,p,h1,h2=>by
  have hx:=xR x y z t ha.2.1 ha.2.2.1 ha.1 V.1 p.1;have E:=qS a b c ts ha.2.2.2 V.2.2.2 p.2.2.2 Wy JY;simp only[iy];refine pY.then hx (λ_ _=>E) (λ_=>⟨E.neg,E.lo,E.hi,E.zero⟩) ek
end
mutual
def X2:Vl->Vl->Int
 |.mk k n a s J G E,.mk k' V T U M Y W =>
  if(if k=9 then(J.length:Int)else n)<(if k=9 then(M.length:Int)else V)\/Op.bytesLess s U=true then -1
  else if(if k=9 then(J.length:Int)else n)>(if k=9 then(M.length:Int)else V)\/Op.bytesLess U s=true then 1
  else Un J M
def Un:L Vl->L Vl->Int
 |x::l,y::r=>if X2 x y=0 then Un l r else X2 x y
 |_,_=>0
end
mutual
def IT:Ty->Bool
 |.mk T J=>(if T=13\/T=15 then jE J else true)&&GM J
def GM:L Ty->Bool
 |[]=>true
 |t::l=>IT t&&GM l
end
mutual
def EX:∀(t:Ty)(d n:Int),(eF t d n).1=true->IT t=true
 |.mk T J,d,n,h=>by
  simp only[eF]at h;split at h
  ·cases h
  ·rcases E:dJ J (d+1) (n+1)with ⟨b,m⟩
   rw[E]at h;cases b
   ·cases h
   ·have:=C7 J (d+1) (n+1) (by rw[E]);simp only[IT,this,abe];exact h
def C7:∀(l:L Ty)(d n:Int),(dJ l d n).1=true->GM l=true
 |[],_,_,_=>rfl
 |t::l,d,n,h=>by
  simp only[dJ]at h;rcases E:eF t d n with ⟨b,m⟩
  rw[E]at h;cases b
  ·cases h
  ·have h1:=EX t d n (by rw[E]);have h2:=C7 l d m h;simp[GM,h1,h2]
end
def K8{t:Ty}(h:br t=true):IT t=true:=EX t 1 0 h
def mo(k n a:Int)(J:L Vl)(Y:L Ty)(t:Ty):Bool :=
  if k=1\/k=6 then decide (n=0/\J.length=0)
  else if k=2 then decide (0<=n/\n<=1/\J.length=0)
  else if k=3 then decide (-bL<=n/\n<=bL/\J.length=0)
  else if k=4\/k=5 then decide (0<=n/\n<=bL/\J.length=0)
  else if k=7 then decide (0<=n/\n<12/\J.length=0)
  else if k=9 then decide (n=0/\J.length<=1)&&aP J (aD t 0)
  else if k=10 then decide (n=0/\J.length<=24)&&aP J (aD t 0)
  else if k=11 then decide (n=0/\J.length=2)&&cV J (aq t)
  else if k=12 then decide (0<=n/\n<=1/\J.length=1)&&aP J (aD t n.toNat)
  else if k=13 then decide (n=0/\J.length<=24)&&aP J (.mk 11 (aq t))&&vD J
  else if k=14 then cP (aD t 0) (Y.getD 0 kG)&&cP (aD t 1) (Y.getD 1 kG)
  else if k=15 then decide (1<=n/\n<=bL/\0<=a/\a<12/\J.length=1)&&aP J (aD t 0)
  else if k=8 then decide (0<=n/\n<=bL/\0<=a/\a<12/\J.length=1)&&br (Y.getD 0 kG)&&aP J (Y.getD 0 kG)
  else false
def TE(k n a:Int)(s:L UInt8)(J:L Vl)(Y:L Ty)(W:L Nd)(t:Ty):bE (.mk k n a s J Y W) t=((k==bM t)&&(cq (.mk k n a s J Y W)&&(decide (s.length<=200)&&mo k n a J Y t))):=by
 by_cases h:k≠bM t\/cq (.mk k n a s J Y W)=false\/200<s.length
 ·simp only[bE,if_pos h];rcases h with h|h|h
  ·simp_all
  ·rw[h];simp
  ·grind
 ·simp only[bE,if_neg h];simp only[not_or,ne_eq,aaK,Bool.not_eq_false,Nat.not_lt]at h;rw[h.2.1,show(k==bM t)=true from by simpa using h.1,show decide (s.length<=200)=true from by simpa using h.2.2];rfl
def aa0(v:Vl)(V U bs:Bool)(J Y:Int)(T:Bool):Bool:=match v with
 |.mk _ n a s l ts W=>(V||n==0)&&((U||a==0)&&((bs||s.isEmpty)&&(decide ((l.length:Int)=J)&&(decide ((ts.length:Int)=Y)&&(T||decide (W.length=0))))))
mutual
def dY:Vl->Nd
 |.mk k n _ s J _ _ =>
  if k=1 then .mk 2 0 20 [] []
  else if k=2 then .mk 2 0 (22-n) [] []
  else if k=6 then .mk 1 0 0 s []
  else if k=9 then .mk 2 0 (27-J.length) [] (dW J)
  else if k=10 then .mk 3 0 0 [] (dW J)
  else if k=11 then .mk 2 0 23 [] (dW J)
  else if k=12 then .mk 2 0 (24+n) [] (dW J)
  else if k=13 then .mk 3 0 0 [] (lH J)
  else .mk 0 n 0 [] []
def dW:L Vl->L Nd
 |[]=>[]
 |x::l=>dY x::dW l
def lH:L Vl->L Nd
 |[]=>[]
 |.mk _ _ _ _ J _ _::l => .mk 2 0 28 [] (dW J)::lH l
end
def glue(acc:L Vl):L Vl×Bool->L Vl×Bool
 |(q,true)=>(acc++q,true)
 |(_,false)=>([],false)
def o8(T:Int):Vl := .mk T 0 0 [] [] [] []
mutual
def dB:Nd->Ty->Vl×Bool
 |.mk Y N P S J,t =>
  if bM t=1 then(o8 1,decide (Y=2/\P=20/\J.length=0))
  else if bM t=2 then(.mk 2 (IntKind.i64.wrap (22-P)) 0 [] [] [] [],decide (Y=2/\(P=21\/P=22)/\J.length=0))
  else if bM t=3\/bM t=4\/bM t=5\/bM t=7 then(.mk (bM t) N 0 [] [] [] [],decide (Y=0))
  else if bM t=6 then(.mk 6 0 0 S [] [] [],decide (Y=1))
  else if bM t=9 then
   if Y=2/\P=27 then(o8 9,decide (J.length=0))
   else if Y=2/\P=26 then(.mk 9 0 0 [] (ew J (aq t)).1 [] [],(ew J (aq t)).2)
   else(o8 9,false)
  else if bM t=11 then
   if Y=2/\P=23 then(.mk 11 0 0 [] (ew J (aq t)).1 [] [],(ew J (aq t)).2)
   else(o8 11,false)
  else if bM t=12 then
   if Y=2/\P=24 then(.mk 12 0 0 [] (ew J [aD t 0]).1 [] [],(ew J [aD t 0]).2)
   else if Y=2/\P=25 then(.mk 12 1 0 [] (ew J [aD t 1]).1 [] [],(ew J [aD t 1]).2)
   else(o8 12,false)
  else if bM t=10 then(.mk 10 0 0 [] (eL J (aD t 0)).1 [] [],decide (Y=3)&&(eL J (aD t 0)).2)
  else if bM t=13 then(.mk 13 0 0 [] (dZ J (aq t)).1 [] [],decide (Y=3)&&(dZ J (aq t)).2)
  else(o8 (bM t),false)
def ew:L Nd->L Ty->L Vl×Bool
 |[],[]=>([],true)
 |x::l,t::r=>if(dB x t).2=true then glue [(dB x t).1] (ew l r)else([],false)
 |[],_::_=>([],false)
 |_::_,[]=>([],false)
def eL:L Nd->Ty->L Vl×Bool
 |[],_=>([],true)
 |x::l,t=>((dB x t).1::(eL l t).1,(dB x t).2&&(eL l t).2)
def dZ:L Nd->L Ty->L Vl×Bool
 |[],_=>([],true)
 |.mk Y _ P _ xs::l,ts=>(.mk 11 0 0 [] (ew xs ts).1 [] []::(dZ l ts).1,((ew xs ts).2&&decide (Y=2/\P=28))&&(dZ l ts).2)
end
def OF(a b:L Vl)(x:L Vl×Bool):glue a (glue b x)=glue (a++b) x:=by
 obtain⟨q,c⟩:=x;cases c<;>simp[glue]
def RL(x:L Vl×Bool)(h:x.2=false->x.1=[]):glue [] x=x:=by
 obtain⟨q,c⟩:=x;cases c
 ·simp at h;subst h;rfl
 ·simp[glue]
def C0:∀(l:L Nd)(r:L Ty),(ew l r).2=false->(ew l r).1=[]
 |[],[],h=>by simp[ew]at h
 |[],_::_,_=>by simp[ew]
 |_::_,[],_=>by simp[ew]
 |x::l,t::r,h=>by
  simp only[ew]at h ⊢;by_cases I:(dB x t).2=true
  ·rw[if_pos I]at h ⊢;cases E:ew l r with
   |mk q c =>
    cases c with
    |false=>rfl
    |true=>rw[E]at h;cases h
  ·rw[if_neg I]
def Jp:∀(l:L Nd)(r:L Ty),l.length≠r.length->ew l r=([],false)
 |[],[],h=>by simp at h
 |[],_::_,_=>by simp[ew]
 |_::_,[],_=>by simp[ew]
 |x::l,t::r,h=>by
  simp only[ew,Jp l r q6];split<;>rfl
mutual
def Bp:∀(v:Vl),bZ (dY v)<=aO v
 |.mk k n a s J Y W=>by
  have h1:=ue J;have h2:=C8 J;simp only[dY,aO]
  repeat' split
  all_goals simp only[bZ,aS,aad];omega
def ue:∀(l:L Vl),aS (dW l)<=aK l
 |[]=>by simp[dW,aS,aK]
 |x::l=>by
  have h1:=Bp x;have h2:=ue l;simp only[dW,aS,aK];omega
def C8:∀(l:L Vl),aS (lH l)<=aK l
 |[]=>by simp[lH,aS,aK]
 |.mk k n a s J Y W::l=>by
  have h1:=ue J;have h2:=C8 l;simp only[lH,aS,bZ,aK,aO,aad];omega
end
def OL(a:L Vl)(x:L Vl×Bool):aK (glue a x).1<=aK a+aK x.1:=by
 obtain⟨q,c⟩:=x;cases c
 ·simp[glue,aK]
 ·simp only[glue];have:∀a b:L Vl,aK (a++b)=aK a+aK b:=by
   intro a b
   induction a with
   |nil=>simp[aK]
   |cons x a O=>simp only[Zy,aK,O];omega
  rw[this];omega
mutual
def uu:∀(n:Nd)(t:Ty),aO (dB n t).1<=bZ n
 |.mk Y N P S J,t=>by
  have h1:=qT J (aq t);have h2:=ya J (aD t 0);have K:=yb J (aq t);have W:=qT J [aD t 0];have V:=qT J [aD t 1];simp only[dB,bZ,o8]
  repeat' split
  all_goals simp only[aO,aK,bg,aS,aad];omega
def qT:∀(l:L Nd)(r:L Ty),aK (ew l r).1<=aS l
 |[],[]=>by simp[ew,aK]
 |[],_::_=>by simp[ew,aK]
 |_::_,[]=>by simp[ew,aK]
 |x::l,t::r=>by
  have h1:=uu x t;have h2:=qT l r;simp only[ew,aS];split
  ·have:=OL [(dB x t).1] (ew l r);simp only[aK]at this;omega
  ·simp[aK]
def ya:∀(l:L Nd)(t:Ty),aK (eL l t).1<=aS l
 |[],_=>by simp[eL,aK]
 |x::l,t=>by
  have h1:=uu x t;have h2:=ya l t;simp only[eL,aS,aK];omega
def yb:∀(l:L Nd)(ts:L Ty),aK (dZ l ts).1<=aS l
 |[],_=>by simp[dZ,aK]
 |.mk Y N P S xs::l,ts=>by
  have h1:=qT xs ts;have h2:=yb l ts;simp only[dZ,aS,bZ,aK,aO,bg,aad];omega
end
def j6{k n a:Int}{s:L UInt8}{J:L Vl}{Y:L Ty}{W:L Nd}{t:Ty}(h:bE (.mk k n a s J Y W) t=true):mo k n a J Y t=true:=by
 rw[TE]at h;simp only[aal]at h;exact h.2.2.2
def RV{T:Int}(h:qB T=true):T≠8/\T≠14/\T≠15:=by
 simp only[qB,aal,abY,ne_eq]at h;refine⟨?_,?_,?_⟩<;>(rintro rfl;simp at h)
def EY{t:Ty}(h:rH qB t=true):qB (bM t)=true/\nh qB (aq t)=true:=by
 cases t with|mk T l=>simpa[rH,bM,aq]using h
def So{l:L Vl}{ts:L Ty}(h1:l.length=2)(h2:ts.length=2)(h:cV l ts=true):∃x y u w,l=[x,y]/\ts=[u,w]/\bE x u=true/\bE y w=true:=by
 match l,ts,h1,h2 with
 |[x,y],[u,w],_,_ =>
  simp only[cV,aal]at h;exact⟨x,y,u,w,Z,Z,h.1,h.2.1⟩
def OM{k:Int}{m:Nat}(h:arity k=(m:Int)):1<=k/\k<=15:=by
 unfold arity at h;split at h<;>omega
def VS{x:Nd}{l:L Nd}{t:Ty}{r:L Ty}(h:(ew (x::l) (t::r)).2=true):(dB x t).2=true/\(ew l r).2=true/\(ew (x::l) (t::r)).1=(dB x t).1::(ew l r).1:=by
 simp only[ew]at h ⊢;by_cases I:(dB x t).2=true
 ·rw[if_pos I]at h ⊢;rcases E:ew l r with ⟨q,c⟩
  rw[E]at h;cases c
  ·simp[glue]at h
  ·exact⟨I,Z,by simp[glue]⟩
 ·simp_all
def wH{x:Nd}{l:L Nd}{d:Int}(h:cY (x::l) d=0):ef x d=0/\cY l d=0:=by
 simp only[cY]at h;by_cases I:ef x d=0
 ·omega
 ·omega
mutual
def C9:∀(n:Nd)(t:Ty)(d:Int),rH qB t=true->fV t=false->(dB n t).2=true->bE (dB n t).1 t=true->ef n d=0->dY (dB n t).1=n
 |.mk Y N P S D,t,d,W,A,hok,h,E=>by
  obtain⟨Q,K⟩:=jf E;obtain⟨_,hkd,O,B,p,G,_,_,_⟩:=lp Q;have M:=Da D;have Za:=Aj D;have ihm:=Ak D;obtain⟨JJ,jC⟩:=gT A;have T:=(EY W).2;have hrg:=OM JJ;have hpn:=RV (EY W).1;clear E Q W A;rcases(by omega:bM t=1\/bM t=2\/bM t=3\/bM t=4\/bM t=5\/bM t=6\/bM t=7\/bM t=9\/bM t=10\/bM t=11\/bM t=12\/bM t=13)with V|V|V|V|V|V|V|V|V|V|V|V
  all_goals rw[V]at JJ
  ·simp[dB,V]at hok;obtain⟨rfl,rfl,rfl⟩:=hok;obtain rfl:=O cc;obtain rfl:=p cc;simp[dB,V,dY,o8]
  ·simp[dB,V]at hok;obtain⟨rfl,Nr,rfl⟩:=hok;obtain rfl:=O cc;obtain rfl:=p cc;rcases Nr with rfl|rfl<;>simp[dB,V,dY,o8]<;>decide
  ·simp[dB,V]at hok;subst hok;obtain rfl:=B cc;obtain rfl:=p cc;obtain rfl:=List.length_eq_zero_iff.1 (G cc);simp[dB,V,dY,o8]
  ·simp[dB,V]at hok;subst hok;obtain rfl:=B cc;obtain rfl:=p cc;obtain rfl:=List.length_eq_zero_iff.1 (G cc);simp[dB,V,dY,o8]
  ·simp[dB,V]at hok;subst hok;obtain rfl:=B cc;obtain rfl:=p cc;obtain rfl:=List.length_eq_zero_iff.1 (G cc);simp[dB,V,dY,o8]
  ·simp[dB,V]at hok;subst hok;obtain rfl:=O cc;obtain rfl:=B cc;obtain rfl:=List.length_eq_zero_iff.1 (G cc);simp[dB,V,dY,o8]
  ·simp[dB,V]at hok;subst hok;obtain rfl:=B cc;obtain rfl:=p cc;obtain rfl:=List.length_eq_zero_iff.1 (G cc);simp[dB,V,dY,o8]
  ·by_cases I:Y=2/\P=27
   ·obtain⟨rfl,rfl⟩:=I;simp[dB,V]at hok;subst hok;obtain rfl:=O cc;obtain rfl:=p cc;simp[dB,V,dY,o8,dW]
   ·by_cases c2:Y=2/\P=26
    ·obtain⟨rfl,rfl⟩:=c2;obtain rfl:=O cc;obtain rfl:=p cc;simp[dB,V]at hok h ⊢;have J:=j6 h;simp[mo]at J;have ha9:arity 9=1:=by decide
     have hts:aq t=[aD t 0]:=by
      match hh:aq t,(show(aq t).length=1 by omega)with
      |[u],_=>simp[aD,hh]
     have U:cV (ew D (aq t)).1 (aq t)=true:=by
      generalize ew D (aq t)=q at J;rw[hts]
      match hq:q.1,J with
      |[],_=>simp[cV]
      |[x],J=>simp[aP,hq]at J;simp[cV,J]
      |x::y::l,J=>simp[hq]at J
     obtain⟨C,e2,e3⟩:=M (aq t) (d+1) T jC hok U K;simp only[dY];simp only[C,e2];simp;omega
    ·simp[dB,V,I,c2]at hok
  ·simp[dB,V]at hok;obtain⟨rfl,hok⟩:=hok;obtain rfl:=O cc;obtain rfl:=B cc;obtain rfl:=p cc;simp[dB,V]at h ⊢;have J:=j6 h;simp[mo]at J;have ha:arity 10=1:=by decide
   have H:aD t 0∈aq t:=j7 bn;have C:=Za (aD t 0) (d+1) (qR T H) (di jC H) hok J.2 K;simp[dY,C]
  ·by_cases I:Y=2/\P=23
   ·obtain⟨rfl,rfl⟩:=I;obtain rfl:=O cc;obtain rfl:=p cc;simp[dB,V]at hok h ⊢;have J:=j6 h;simp[mo]at J;obtain⟨C,e2,e3⟩:=M (aq t) (d+1) T jC hok J.2 K;simp[dY,C]
   ·simp[dB,V,I]at hok
  ·by_cases I:Y=2/\P=24
   ·obtain⟨rfl,rfl⟩:=I;obtain rfl:=O cc;obtain rfl:=p cc;simp[dB,V]at hok h ⊢;have J:=j6 h;simp[mo]at J;have ha:arity 12=2:=by decide
    have H:aD t 0∈aq t:=j7 bn;have U:cV (ew D [aD t 0]).1 [aD t 0]=true:=by
     generalize ew D [aD t 0]=q at J
     match hq:q.1,J with
     |[],_=>simp[cV]
     |[x],J=>simp[aP,hq]at J;simp[cV,J]
     |x::y::l,J=>simp[hq]at J
    obtain⟨C,e2,e3⟩:=M [aD t 0] (d+1) (by simp only[nh,abe];exact qR T H) VK hok U K;simp[dY,C]
   ·by_cases c2:Y=2/\P=25
    ·obtain⟨rfl,rfl⟩:=c2;obtain rfl:=O cc;obtain rfl:=p cc;simp[dB,V]at hok h ⊢;have J:=j6 h;simp[mo]at J;have ha:arity 12=2:=by decide
     have H:aD t 1∈aq t:=j7 bn;have U:cV (ew D [aD t 1]).1 [aD t 1]=true:=by
      generalize ew D [aD t 1]=q at J
      match hq:q.1,J with
      |[],_=>simp[cV]
      |[x],J=>simp[aP,hq]at J;simp[cV,J]
      |x::y::l,J=>simp[hq]at J
     obtain⟨C,e2,e3⟩:=M [aD t 1] (d+1) (by simp only[nh,abe];exact qR T H) VK hok U K;simp[dY,C]
    ·simp[dB,V,I,c2]at hok
  ·simp[dB,V]at hok;obtain⟨rfl,hok⟩:=hok;obtain rfl:=O cc;obtain rfl:=B cc;obtain rfl:=p cc;simp[dB,V]at h ⊢;have J:=j6 h;simp[mo]at J;have ha:arity 13=2:=by decide
   have C:=ihm (aq t) (d+1) T jC bn hok J.1.2 K;simp[dY,C]
def Da:∀(l:L Nd)(ts:L Ty)(d:Int),nh qB ts=true->lX ts=false->(ew l ts).2=true->cV (ew l ts).1 ts=true->cY l d=0->dW (ew l ts).1=l/\(ew l ts).1.length=l.length/\l.length=ts.length
 |[],[],_,_,_,_,_,_=>by simp[ew,dW]
 |[],_::_,_,_,_,h,_,_=>by simp[ew]at h
 |_::_,[],_,_,_,h,_,_=>by simp[ew]at h
 |x::l,t::ts,d,W,A,hok,h,E=>by
  simp only[nh,aal]at W;simp only[lX,aaT]at A;obtain⟨o1,o2,o3⟩:=VS hok;obtain⟨w1,w2⟩:=wH E;rw[o3]at h ⊢;simp only[cV,aal]at h;have h1:=C9 x t d W.1 A.1 o1 h.1 w1;have h2:=Da l ts d W.2 A.2 o2 h.2 w2;simp[dW,h1,h2]
def Aj:∀(l:L Nd)(t:Ty)(d:Int),rH qB t=true->fV t=false->(eL l t).2=true->aP (eL l t).1 t=true->cY l d=0->dW (eL l t).1=l
 |[],_,_,_,_,_,_,_=>by simp[eL,dW]
 |x::l,t,d,W,A,hok,h,E=>by
  obtain⟨w1,w2⟩:=wH E;simp only[eL,aal]at hok;simp only[eL,aP,aal]at h;have h1:=C9 x t d W A hok.1 h.1 w1;have h2:=Aj l t d W A hok.2 h.2 w2;simp[eL,dW,h1,h2]
def Ak:∀(l:L Nd)(ts:L Ty)(d:Int),nh qB ts=true->lX ts=false->ts.length=2->(dZ l ts).2=true->aP (dZ l ts).1 (.mk 11 ts)=true->cY l d=0->lH (dZ l ts).1=l
 |[],_,_,_,_,_,_,_,_=>by simp[dZ,lH]
 |.mk Y N P S xs::l,ts,d,W,A,h2l,hok,h,E=>by
  obtain⟨w1,w2⟩:=wH E;obtain⟨Q,K⟩:=jf w1;obtain⟨_,hkd,O,B,p,G,_,_,_⟩:=lp Q;simp only[dZ,aal,Z5]at hok;obtain⟨⟨HK,rfl,rfl⟩,Kj⟩:=hok;obtain rfl:=O cc;obtain rfl:=p cc;simp only[dZ,aP,aal]at h;have J:=j6 h.1;simp[mo,aq]at J;have h1:=Da xs ts (d+1) W A HK J.2 K;have h2:=Ak l ts d W A h2l Kj h.2 w2;simp[dZ,lH,h1,h2]
end
def gQ(t:Ty)(n:Nd):Vl×Int:=if br t=true/\dD n=0/\(dB n t).2=true/\bE (dB n t).1 t=true then((dB n t).1,0)else(nE,1)
def aag(t:Ty)(v:Vl):Nd×Int:=if oA t v=true/\fO t=true then(if dD (dY v)=0 then(dY v,0)else(qV,dD (dY v)))else(qV,5)
def su(v:Vl):L UInt8×Int:=if dD (dY v)=0 then(if 200<=(dQ (dY v)).length then([],4)else(5::dQ (dY v),0))else([],dD (dY v))
def aah(t:Ty)(v:Vl):L UInt8×Int:=if oA t v=true/\fO t=true then su v else([],5)
def gd(t:Ty)(s:L UInt8):Vl×Int:=match s with
 |[]=>(nE,1)
 |c::r=>if c=5/\(c::r).length<=200/\fO t=true/\(eH r).2=0 then gQ t (eH r).1 else(nE,1)
def EJ{t:Ty}{n:Nd}(h:(gQ t n).2=0):oA t (gQ t n).1=true/\dD n=0/\(fO t=true->dY (gQ t n).1=n):=by
 unfold gQ at h ⊢;split at h
 ·rename_i A;rw[if_pos A];have Y:fV t=false:=by
   cases Y:fV t with
   |false=>rfl
   |true =>
    have h1:=CX t 24 300 Y;rw[EN,A.1]at h1;cases h1
  refine⟨by unfold oA;simp only[A.1,A.2.2.2];rfl,A.2.1,λq=>?_⟩;exact C9 n t 1 q Y A.2.2.1 A.2.2.2 (jH.1 A.2.1).1
 ·cases h
def EK(t:Ty)(n:Nd):aO (gQ t n).1<=bZ n:=by
 unfold gQ;split
 ·exact uu n t
 ·exact CU n
end Go.cM
