/- Package value as plain functions: -/
import Derived.Test.YtdnpapgijbhofaaGreatDoorTPure
set_option linter.defProp false
set_option linter.unusedVariables false
set_option linter.unusedSimpArgs false
namespace Go.cw
def dD:Ty->Int | .mk T _=>T
def aV:Ty->L Ty | .mk _ l=>l
def aU(t:Ty)(i:Nat):Ty:=(aV t).getD i lJ
def vK:Vl->Int | .mk k _ _ _ _ _ _=>k
def vN:Vl->Int | .mk _ n _ _ _ _ _=>n
def vS:Vl->L UInt8 | .mk _ _ _ s _ _ _=>s
def ez:Vl->L Vl | .mk _ _ _ _ l _ _=>l
def lC:Vl := .mk 0 0 0 [] [] [] []
mutual
def gX:Vl->Nat
 |.mk _ _ _ s M _ _=>1+s.length/8+iX M
def iX:L Vl->Nat
 |[]=>0
 |x::l=>gX x+iX l
end
mutual
def rY:Vl->Vl->Bool
 |.mk k n a s l t c,.mk k' Y B O N V c'=>k==k'&&n==Y&&a==B&&s==O&&pS l N&&gP t V&&lI c c'
def pS:L Vl->L Vl->Bool
 |[],[]=>true
 |t::l,u::r=>rY t u&&pS l r
 |_,_=>false
end
mutual
def Kj:∀(t u:Vl),rY t u=true↔t=u
 |.mk k n a s l t c,.mk k' Y B O N V c'=>by simp[rY,HX l N,l9 t V,yJ c c',and_assoc]
def HX:∀(t u:L Vl),pS t u=true↔t=u
 |[],[]=>by simp[pS]
 |[],_::_=>by simp[pS]
 |_::_,[]=>by simp[pS]
 |t::l,u::r=>by simp[pS,Kj t u,HX l r]
end
def wV(a b:Int):Int:=if a<b then -1 else if a>b then 1 else 0
def fm(a b:L UInt8):Int:=if Op.bytesLess a b then -1 else if Op.bytesLess b a then 1 else 0
mutual
def dS:Vl->Vl->Int
 |.mk k n a s M V code,.mk k' W B O U Y T =>
  if k=6 then fm s O
  else if k=9 then(if wV M.length U.length=0 then jY M U else wV M.length U.length)
  else if k=11 then jY M U
  else if k=12 then(if wV n W=0 then jY M U else wV n W)
  else wV n W
def jY:L Vl->L Vl->Int
 |x::l,y::r=>if dS x y=0 then jY l r else dS x y
 |_,_=>0
end
def cA:Vl->Bool
 |.mk k n a s M V code =>
  if k=15 then decide (V.length=0/\code.length=0/\s=[])
  else if k=8 then decide (V.length=1/\code.length=0/\s=[])
  else if k=14 then decide (V.length=2/\a=0/\n=0/\s=[]/\M.length=0)
  else if k=6 then decide (V.length=0/\code.length=0/\a=0/\n=0/\M.length=0)
  else decide (V.length=0/\code.length=0/\a=0/\s=[])
def nH(x:Vl):Vl:=(ez x).getD 0 lC
def Bl:L Vl->Bool
 |[]=>true
 |x::l=>match l with
  |[]=>true
  |y::_=>decide (dS (nH x) (nH y)<0)&&Bl l
mutual
def bE:Vl->Ty->Bool
 |.mk k n a s M V code,t =>
  if k≠dD t\/cA (.mk k n a s M V code)=false\/200<s.length then false
  else if k=1\/k=6 then decide (n=0/\M.length=0)
  else if k=2 then decide (0<=n/\n<=1/\M.length=0)
  else if k=3 then decide (-bJ<=n/\n<=bJ/\M.length=0)
  else if k=4\/k=5 then decide (0<=n/\n<=bJ/\M.length=0)
  else if k=7 then decide (0<=n/\n<12/\M.length=0)
  else if k=9 then decide (n=0/\M.length<=1)&&aL M (aU t 0)
  else if k=10 then decide (n=0/\M.length<=24)&&aL M (aU t 0)
  else if k=11 then decide (n=0/\M.length=2)&&dA M (aV t)
  else if k=12 then decide (0<=n/\n<=1/\M.length=1)&&aL M (aU t n.toNat)
  else if k=13 then decide (n=0/\M.length<=24)&&aL M (.mk 11 (aV t))&&Bl M
  else if k=14 then cV (aU t 0) (V.getD 0 lJ)&&cV (aU t 1) (V.getD 1 lJ)
  else if k=15 then decide (1<=n/\n<=bJ/\0<=a/\a<12/\M.length=1)&&aL M (aU t 0)
  else if k=8 then decide (0<=n/\n<=bJ/\0<=a/\a<12/\M.length=1)&&br (V.getD 0 lJ)&&aL M (V.getD 0 lJ)
  else false
def aL:L Vl->Ty->Bool
 |[],_=>true
 |x::l,t=>bE x t&&aL l t
def dA:L Vl->L Ty->Bool
 |x::l,t::r=>bE x t&&dA l r
 |_,_=>true
end
def oA(t:Ty)(v:Vl):Bool:=br t&&bE v t
def fQ(t:Ty):∀(l:L Vl),aL l t=true↔∀x∈l,bE x t=true
 |[]=>by simp[aL]
 |x::l=>by simp[aL,fQ t l]
def agC(t:Ty)(a b:Vl):Int×Int:=if oA t a=true/\oA t b=true/\gl t=true then(dS a b,0)else(0,5)
def abO(a b:Int):wV a b = -wV b a:=by unfold wV;split<;>split<;>(try split)<;>omega
def zK(a b:Int) : -1<=wV a b/\wV a b<=1:=by unfold wV;split<;>(try split)<;>omega
def oW{a b:Int}:wV a b=0↔a=b:=by unfold wV;split<;>(try split)<;>omega
def PX(x y z:Int):Prop:=(x<=0->y<=0->z<=0/\(z=0↔x=0/\y=0))/\(x>=0->y>=0->z>=0/\(z=0↔x=0/\y=0))
def Zu(a b c:Int):PX (wV a b) (wV b c) (wV a c):=by unfold PX wV;constructor<;>intro h1 h2<;>split at h1<;>split at h2<;>split<;>(try split at h1)<;>(try split at h2)<;>(try split)<;>omega
def Eo:∀(a:L UInt8),Op.bytesLess a a=false
 |[]=>rfl
 |x::a=>by simp[Op.bytesLess,Eo a]
def HY:∀(a b:L UInt8),Op.bytesLess a b=true->Op.bytesLess b a=false
 |[],[],h=>by simp[Op.bytesLess]at h
 |[],_::_,_=>rfl
 |_::_,[],h=>by simp[Op.bytesLess]at h
 |x::a,y::b,h=>by
  simp only[Op.bytesLess,Bool.or_eq_true,agh,aaN,ahD]at h;simp only[Op.bytesLess,afV,agY,Bool.and_eq_false_iff];rw[aic]at *;rcases h with h|⟨rfl,h⟩
  grind;exact⟨ai,.inr (HY a b h)⟩
def HZ:∀(a b:L UInt8),Op.bytesLess a b=false->Op.bytesLess b a=false->a=b
 |[],[],_,_=>rfl
 |[],_::_,h,_=>by simp[Op.bytesLess]at h
 |_::_,[],_,h=>by simp[Op.bytesLess]at h
 |x::a,y::b,h,h'=>by simp only[Op.bytesLess,afV,agY,aic]at h h';have e:x=y:=UInt8.toNat_inj.1 ai;subst e;rw[HZ a b (by simpa using h.2) (by simpa using h'.2)]
def H6:∀(a b c:L UInt8),Op.bytesLess a b=true->Op.bytesLess b c=true->Op.bytesLess a c=true
 |_,[],[],_,h=>by simp[Op.bytesLess]at h
 |_,_::_,[],_,h=>by simp[Op.bytesLess]at h
 |_,[],_::_,h,_=>by simp[Op.bytesLess]at h
 |[],_::_,_::_,_,_=>rfl
 |x::a,y::b,z::c,h,H=>by
  simp only[Op.bytesLess,Bool.or_eq_true,agh,aaN,ahD,aic]at h H ⊢;rcases h with h|⟨rfl,h⟩
  grind;rcases H with H|⟨rfl,H⟩
  omega;right;exact⟨Z,H6 a b c h H⟩
def pU(a b:L UInt8):fm a b = -fm b a:=by unfold fm;cases h:Op.bytesLess a b;grind;rw[HY a b h];simp
def Cv(a b:L UInt8) : -1<=fm a b/\fm a b<=1:=by unfold fm;split<;>(try split)<;>omega
def yN{a b:L UInt8}:fm a b=0↔a=b:=by constructor;intro h;unfold fm at h;cases h1:Op.bytesLess a b;cases h2:Op.bytesLess b a;exact HZ a b h1 h2;grind;grind;rintro rfl;simp[fm,Eo]
def DE{a b:L UInt8}:fm a b<0↔Op.bytesLess a b=true:=by unfold fm;grind
def PY(a b c:L UInt8):PX (fm a b) (fm b c) (fm a c):=by
 have Y:∀a b c,fm a b<=0->fm b c<=0->fm a c<=0/\(fm a c=0↔fm a b=0/\fm b c=0):=by intro a b c h1 h2;by_cases E:fm a b=0;obtain rfl:=yN.1 E;omega;by_cases N:fm b c=0;obtain rfl:=yN.1 N;omega;have C:=DE.1 (show fm a b<0 by omega);have W:=DE.1 (show fm b c<0 by omega);have V:=DE.2 (H6 _ _ _ C W);omega
 refine⟨Y a b c,λh1 h2=>?_⟩;have:=Y c b a (by rw[pU];omega) (by rw[pU];omega);have U:=pU a b;have T:=pU b c;have n3:=pU a c;omega
def VY{x y z J Y W:Int}(h:PX x y z)(H:x=0->y=0->PX J Y W):PX (if x=0 then J else x) (if y=0 then Y else y) (if z=0 then W else z):=by unfold PX at *;by_cases ex:x=0;omega;omega
def Mx:L Vl->L Ty->Prop
 |[],_=>True
 |x::l,t::r=>bE x t=true/\gl t=true/\iC t=false/\Mx l r
 |_::_,[]=>False
def dO:∀{l:L Ty}{x:Ty},oR l=false->x∈l->iC x=false
 |[],_,_,h=>by simp at h
 |t::l,x,hb,h=>by
  simp only[oR,afV]at hb;rcases List.mem_cons.1 h with rfl|h
  grind;exact dO hb.2 h
def vr{p:Int->Bool}:∀{l:L Ty}{x:Ty},qm p l=true->x∈l->vR p x=true
 |[],_,_,h=>by simp at h
 |t::l,x,hb,h=>by
  simp only[qm,aaN]at hb;rcases List.mem_cons.1 h with rfl|h
  grind;exact vr hb.2 h
def mJ{t:Ty}{i:Nat}(h:i<(aV t).length):aU t i∈aV t:=by unfold aU;rw[agl,aeL h];exact ahi h
def jD{t:Ty}(h:iC t=false):arity (dD t)=(aV t).length/\oR (aV t)=false:=by cases t with|mk T l=>simpa[iC,dD,aV]using h
def Be{t:Ty}(h:gl t=true):BI (dD t)=true/\qm BI (aV t)=true:=by cases t with|mk T l=>simpa[gl,vR,dD,aV]using h
def PZ{t:Ty}(Y:gl t=true)(U:iC t=false){i:Nat}(h:(i:Int)<arity (dD t)):gl (aU t i)=true/\iC (aU t i)=false:=by have h1:=jD U;have h2:=Be Y;have q:aU t i∈aV t:=mJ ai;exact⟨vr h2.2 q,dO h1.2 q⟩
def P0{l:L Vl}{t:Ty}(I:l.length<=1)(h:aL l t=true)(Y:gl t=true)(U:iC t=false):Mx l [t]:=by
 cases l with
 |nil=>trivial
 |cons x l =>
  cases l with
  |nil=>simp only[aL,aaN]at h;exact⟨h.1,Y,U,trivial⟩
  |cons y l=>simp at I
def P1:∀{l:L Vl}{ts:L Ty},l.length=ts.length->dA l ts=true->qm BI ts=true->oR ts=false->Mx l ts
 |[],_,_,_,_,_=>trivial
 |x::l,[],h,_,_,_=>by simp at h
 |x::l,t::ts,h,B,Y,U=>by simp only[dA,aaN]at B;simp only[qm,aaN]at Y;simp only[oR,afV]at U;exact⟨B.1,Y.1,U.1,P1 oe B.2 Y.2 U.2⟩
def P2{T:Int}(h:BI T=true):T=1\/T=2\/T=3\/T=4\/T=5\/T=6\/T=7\/T=9\/T=11\/T=12:=by
 have h1:T≠8/\T≠10/\T≠13/\T≠14/\T≠15/\arity T>=0:=by simp only[BI,aaN,aiC,agh]at h;omega
 have h2:=h1.2.2.2.2.2;unfold arity at h2;omega
def rC{k n a:Int}{s:L UInt8}{M:L Vl}{V:L Ty}{code:L Nd}{t:Ty}(h:bE (.mk k n a s M V code) t=true):k=dD t/\cA (.mk k n a s M V code)=true/\s.length<=200:=by by_cases Y:k≠dD t\/cA (.mk k n a s M V code)=false\/200<s.length;simp only[bE,if_pos Y]at h;simp at h;grind
def DF{k n a:Int}{s:L UInt8}{M:L Vl}{V:L Ty}{code:L Nd}{t:Ty}(h:bE (.mk k n a s M V code) t=true)(I:gl t=true)(q:iC t=false) :
  k=dD t/\a=0/\V=[]/\code=[]/\(k=6/\n=0/\M=[]\/(k≠6/\k≠9/\k≠11/\k≠12)/\s=[]/\M=[]\/k=9/\n=0/\s=[]/\M.length<=1/\Mx M [aU t 0] \/
   k=11/\n=0/\s=[]/\M.length=2/\Mx M (aV t)\/k=12/\s=[]/\M.length=1/\Mx M [aU t n.toNat]):=by
 obtain⟨h1,h2,K⟩:=rC h;have A:=P2 (Be I).1;rw[<- h1]at A;have S:¬(k≠dD t\/cA (.mk k n a s M V code)=false\/200<s.length):=by simp_all
 simp only[bE,if_neg S]at h;have Q:=(jD q).1;rw[<- h1]at Q;simp only[cA]at h2;rcases A with rfl|rfl|rfl|rfl|rfl|rfl|rfl|rfl|rfl|rfl
 all_goals simp at h h2
 grind;grind;grind;grind;grind;simp_all;grind;obtain⟨G,W,U,T⟩:=h2;have Y:=PZ I q (i:=0) (by rw[<- h1];decide);exact⟨h1,U,G,W,.inr (.inr (.inl ⟨Z,h.1.1,T,h.1.2,P0 h.1.2 h.2 Y.1 Y.2⟩))⟩
 ·obtain⟨G,W,U,T⟩:=h2;have e:(aV t).length=2:=by(have:arity 11=2:=by decide);omega
  exact⟨h1,U,G,W,.inr (.inr (.inr (.inl ⟨Z,h.1.1,T,h.1.2,P1 ai h.2 (Be I).2 (jD q).2⟩)))⟩
 obtain⟨G,W,U,T⟩:=h2;have Y:=PZ I q (i:=n.toNat) (by(rw[<- h1];have:arity 12=2:=by decide);omega);exact⟨h1,U,G,W,.inr (.inr (.inr (.inr ⟨Z,T,h.1.2.2,P0 ai h.2 Y.1 Y.2⟩)))⟩
structure tN(x u y z:Int)(e:Prop):Prop where
 neg:x = -u
 lo : -1<=x
 hi:x<=1
 zero:x=0↔e
 aee:PX x y z
def tN.wV(a b c:Int){e:Prop}(O:a=b↔e):tN (wV a b) (Go.cw.wV b a) (Go.cw.wV b c) (Go.cw.wV a c) e:=⟨abO a b,(zK a b).1,(zK a b).2,oW.trans O,Zu a b c⟩
def tN.then{x u y z J W V U:Int}{e e' Y:Prop}(h:tN x u y z e)(H:x=0->y=0->tN J W V U e')(h2:x=0->J = -W /\ -1<=J/\J<=1/\(J=0↔e'))(O:e/\e'↔Y) :
  tN (if x=0 then J else x) (if u=0 then W else u) (if y=0 then V else y) (if z=0 then U else z) Y:=by
 have B:=h.neg;refine⟨?_,?_,?_,?_,VY h.aee λh1 K=>(H h1 K).aee⟩;by_cases D:x=0;rw[if_pos D,if_pos ai];exact(h2 D).1;rw[if_neg D,if_neg ai];exact B;by_cases D:x=0;rw[if_pos D];exact(h2 D).2.1;rw[if_neg D];exact h.lo;by_cases D:x=0;rw[if_pos D];exact(h2 D).2.2.1;rw[if_neg D];exact h.hi;by_cases D:x=0;rw[if_pos D,(h2 D).2.2.2,<- O];simp[h.zero.1 D];rw[if_neg D,<- O];constructor;intro E;exact absurd E D;intro E;exact absurd (h.zero.2 E.1) D
mutual
def Cf:∀(a b c:Vl)(t:Ty),gl t=true->iC t=false->bE a t=true->bE b t=true->bE c t=true->tN (dS a b) (dS b a) (dS b c) (dS a c) (a=b)
 |.mk k n a s M D code,.mk k' n' a' s' U E A,.mk k2 n2 a2 s2 W aX bK,t,I,q,h1,h2,h3=>by
  obtain⟨e1,rfl,rfl,rfl,f1⟩:=DF h1 I q;obtain⟨e2,rfl,rfl,rfl,O⟩:=DF h2 I q;obtain⟨e3,rfl,rfl,rfl,N⟩:=DF h3 I q;obtain rfl:k'=k:=by rw[e1,e2]
  obtain rfl:k2=k':=by rw[e2,e3]
  rcases f1 with ⟨g0,g1,H⟩|⟨g0,g1,H⟩|⟨g0,g1,H,g3,C⟩|⟨g0,g1,H,g3,C⟩|⟨g0,H,g3,C⟩
  ·rcases O with ⟨u,S,P⟩|⟨u,_⟩|⟨u,_⟩|⟨u,_⟩|⟨u,_⟩<;>first|omega|skip
   rcases N with ⟨_,Q,V⟩|⟨Y,_⟩|⟨Y,_⟩|⟨Y,_⟩|⟨Y,_⟩<;>first|omega|skip
   subst g1 H S P Q V;simp only[dS,if_pos g0];exact⟨pU _ _,(Cv _ _).1,(Cv _ _).2,by simp[yN],PY _ _ _⟩
  ·rcases O with ⟨u,_⟩|⟨u,S,P⟩|⟨u,_⟩|⟨u,_⟩|⟨u,_⟩<;>first|omega|skip
   rcases N with ⟨Y,_⟩|⟨Y,Q,V⟩|⟨Y,_⟩|⟨Y,_⟩|⟨Y,_⟩<;>first|omega|skip
   subst g1 H S P Q V;simp only[dS,if_neg g0.1,if_neg g0.2.1,if_neg g0.2.2.1,if_neg g0.2.2.2];exact tN.wV n n' n2 cc
  ·rcases O with ⟨u,_⟩|⟨u,_⟩|⟨u,S,P,m3,T⟩|⟨u,_⟩|⟨u,_⟩<;>first|omega|skip
   rcases N with ⟨Y,_⟩|⟨Y,_⟩|⟨Y,Q,V,l3,K⟩|⟨Y,_⟩|⟨Y,_⟩<;>first|omega|skip
   subst g1 H S P Q V g0;simp only[dS,show ¬((9:Int)=6)from by omega,agL,if_true];refine tN.then (tN.wV _ _ _ (Iff.rfl)) (λJ x2=>?_) (λJ=>?_) (e':=M=U) ?_
   have G:=oW.1 J;have y2:=oW.1 x2;exact vt M U W _ C T K ai ai;have G:=oW.1 J;have:=vt M U U _ C T T ai Z;exact⟨this.neg,this.lo,this.hi,this.zero⟩;constructor;rintro⟨_,rfl⟩;rfl;intro h;simp at h;exact⟨by rw[h],h⟩
  ·rcases O with ⟨u,_⟩|⟨u,_⟩|⟨u,_⟩|⟨u,S,P,m3,T⟩|⟨u,_⟩<;>first|omega|skip
   rcases N with ⟨Y,_⟩|⟨Y,_⟩|⟨Y,_⟩|⟨Y,Q,V,l3,K⟩|⟨Y,_⟩<;>first|omega|skip
   subst g1 H S P Q V g0;simp only[dS,show ¬((11:Int)=6)from by omega,show ¬((11:Int)=9)from by omega,agL,if_true];have:=vt M U W _ C T K ai ai;exact⟨this.neg,this.lo,this.hi,by rw[this.zero];simp,this.aee⟩
  rcases O with ⟨u,_⟩|⟨u,_⟩|⟨u,_⟩|⟨u,_⟩|⟨u,P,m3,T⟩<;>first|omega|skip
  rcases N with ⟨Y,_⟩|⟨Y,_⟩|⟨Y,_⟩|⟨Y,_⟩|⟨Y,V,l3,K⟩<;>first|omega|skip
  subst H P V g0;simp only[dS,show ¬((12:Int)=6)from by omega,show ¬((12:Int)=9)from by omega,show ¬((12:Int)=11)from by omega,agL,if_true];refine tN.then (tN.wV _ _ _ (Iff.rfl)) (λJ x2=>?_) (λJ=>?_) (e':=M=U) ?_
  have G:=oW.1 J;have y2:=oW.1 x2;subst G y2;exact vt M U W _ C T K ai ai;have G:=oW.1 J;subst G;have:=vt M U U _ C T T ai Z;exact⟨this.neg,this.lo,this.hi,this.zero⟩;simp
def vt:∀(a b c:L Vl)(ts:L Ty),Mx a ts->Mx b ts->Mx c ts->a.length=b.length->b.length=c.length->tN (jY a b) (jY b a) (jY b c) (jY a c) (a=b)
 |[],[],[],ts,_,_,_,_,_=>by simp only[jY];exact⟨Z,ai,ai,cc,⟨λ_ _=>by simp,λ_ _=>by simp⟩⟩
 |[],_::_,_,_,_,_,_,h,_=>by simp at h
 |_::_,[],_,_,_,_,_,h,_=>by simp at h
 |[],[],_::_,_,_,_,_,_,h=>by simp at h
 |_::_,_::_,[],_,_,_,_,_,h=>by simp at h
 |x::a,y::b,z::c,[],h,_,_,_,_=>h.elim
 |x::a,y::b,z::c,t::ts,ha,q,I,h1,h2=>by have hx:=Cf x y z t ha.2.1 ha.2.2.1 ha.1 q.1 I.1;have B:=vt a b c ts ha.2.2.2 q.2.2.2 I.2.2.2 ads VQ;simp only[jY];refine tN.then hx (λ_ _=>B) (λ_=>⟨B.neg,B.lo,B.hi,B.zero⟩) cc
end
mutual
def agD:Vl->Vl->Int
 |.mk k n a s M V code,.mk k' T B O U Y W =>
  if(if k=9 then(M.length:Int)else n)<(if k=9 then(U.length:Int)else T)\/Op.bytesLess s O=true then -1
  else if(if k=9 then(M.length:Int)else n)>(if k=9 then(U.length:Int)else T)\/Op.bytesLess O s=true then 1
  else acB M U
def acB:L Vl->L Vl->Int
 |x::l,y::r=>if agD x y=0 then acB l r else agD x y
 |_,_=>0
end
mutual
def OW:Ty->Bool
 |.mk T M=>(if T=13\/T=15 then lX M else true)&&My M
def My:L Ty->Bool
 |[]=>true
 |t::l=>OW t&&My l
end
mutual
def Kt:∀(t:Ty)(d n:Int),(fM t d n).1=true->OW t=true
 |.mk T M,d,n,h=>by
  simp only[fM]at h;split at h;cases h;rcases B:eL M (d+1) (n+1)with ⟨b,m⟩
  rw[B]at h;cases b;cases h;have:=H7 M (d+1) (n+1) (by rw[B]);simp only[OW,this,agO];exact h
def H7:∀(l:L Ty)(d n:Int),(eL l d n).1=true->My l=true
 |[],_,_,_=>rfl
 |t::l,d,n,h=>by
  simp only[eL]at h;rcases B:fM t d n with ⟨b,m⟩
  rw[B]at h;cases b;cases h;have h1:=Kt t d n (by rw[B]);have h2:=H7 l d m h;simp[My,h1,h2]
end
def RK{t:Ty}(h:br t=true):OW t=true:=Kt t 1 0 h
def pq(k n a:Int)(M:L Vl)(V:L Ty)(t:Ty):Bool :=
  if k=1\/k=6 then decide (n=0/\M.length=0)
  else if k=2 then decide (0<=n/\n<=1/\M.length=0)
  else if k=3 then decide (-bJ<=n/\n<=bJ/\M.length=0)
  else if k=4\/k=5 then decide (0<=n/\n<=bJ/\M.length=0)
  else if k=7 then decide (0<=n/\n<12/\M.length=0)
  else if k=9 then decide (n=0/\M.length<=1)&&aL M (aU t 0)
  else if k=10 then decide (n=0/\M.length<=24)&&aL M (aU t 0)
  else if k=11 then decide (n=0/\M.length=2)&&dA M (aV t)
  else if k=12 then decide (0<=n/\n<=1/\M.length=1)&&aL M (aU t n.toNat)
  else if k=13 then decide (n=0/\M.length<=24)&&aL M (.mk 11 (aV t))&&Bl M
  else if k=14 then cV (aU t 0) (V.getD 0 lJ)&&cV (aU t 1) (V.getD 1 lJ)
  else if k=15 then decide (1<=n/\n<=bJ/\0<=a/\a<12/\M.length=1)&&aL M (aU t 0)
  else if k=8 then decide (0<=n/\n<=bJ/\0<=a/\a<12/\M.length=1)&&br (V.getD 0 lJ)&&aL M (V.getD 0 lJ)
  else false
def abP(k n a:Int)(s:L UInt8)(M:L Vl)(V:L Ty)(code:L Nd)(t:Ty):bE (.mk k n a s M V code) t=((k==dD t)&&(cA (.mk k n a s M V code)&&(decide (s.length<=200)&&pq k n a M V t))):=by
 by_cases h:k≠dD t\/cA (.mk k n a s M V code)=false\/200<s.length
 ·simp only[bE,if_pos h];rcases h with h|h|h
  simp_all;rw[h];simp;grind
 simp only[bE,if_neg h];simp only[not_or,ne_eq,afF,ain,Nat.not_lt]at h;rw[h.2.1,show(k==dD t)=true from by simpa using h.1,show decide (s.length<=200)=true from by simpa using h.2.2];rfl
def aj8(v:Vl)(Y W bs:Bool)(M V:Int)(U:Bool):Bool:=match v with
 |.mk _ n a s l ts code=>(Y||n==0)&&((W||a==0)&&((bs||s.isEmpty)&&(decide ((l.length:Int)=M)&&(decide ((ts.length:Int)=V)&&(U||decide (code.length=0))))))
mutual
def eX:Vl->Nd
 |.mk k n _ s M _ _ =>
  if k=1 then .mk 2 0 20 [] []
  else if k=2 then .mk 2 0 (22-n) [] []
  else if k=6 then .mk 1 0 0 s []
  else if k=9 then .mk 2 0 (27-M.length) [] (eT M)
  else if k=10 then .mk 3 0 0 [] (eT M)
  else if k=11 then .mk 2 0 23 [] (eT M)
  else if k=12 then .mk 2 0 (24+n) [] (eT M)
  else if k=13 then .mk 3 0 0 [] (oC M)
  else .mk 0 n 0 [] []
def eT:L Vl->L Nd
 |[]=>[]
 |x::l=>eX x::eT l
def oC:L Vl->L Nd
 |[]=>[]
 |.mk _ _ _ _ M _ _::l => .mk 2 0 28 [] (eT M)::oC l
end
def glue(acc:L Vl):L Vl×Bool->L Vl×Bool
 |(q,true)=>(acc++q,true)
 |(_,false)=>([],false)
def qW(T:Int):Vl := .mk T 0 0 [] [] [] []
mutual
def dR:Nd->Ty->Vl×Bool
 |.mk Y N P S M,t =>
  if dD t=1 then(qW 1,decide (Y=2/\P=20/\M.length=0))
  else if dD t=2 then(.mk 2 (IntKind.i64.wrap (22-P)) 0 [] [] [] [],decide (Y=2/\(P=21\/P=22)/\M.length=0))
  else if dD t=3\/dD t=4\/dD t=5\/dD t=7 then(.mk (dD t) N 0 [] [] [] [],decide (Y=0))
  else if dD t=6 then(.mk 6 0 0 S [] [] [],decide (Y=1))
  else if dD t=9 then
   if Y=2/\P=27 then(qW 9,decide (M.length=0))
   else if Y=2/\P=26 then(.mk 9 0 0 [] (eY M (aV t)).1 [] [],(eY M (aV t)).2)
   else(qW 9,false)
  else if dD t=11 then
   if Y=2/\P=23 then(.mk 11 0 0 [] (eY M (aV t)).1 [] [],(eY M (aV t)).2)
   else(qW 11,false)
  else if dD t=12 then
   if Y=2/\P=24 then(.mk 12 0 0 [] (eY M [aU t 0]).1 [] [],(eY M [aU t 0]).2)
   else if Y=2/\P=25 then(.mk 12 1 0 [] (eY M [aU t 1]).1 [] [],(eY M [aU t 1]).2)
   else(qW 12,false)
  else if dD t=10 then(.mk 10 0 0 [] (eV M (aU t 0)).1 [] [],decide (Y=3)&&(eV M (aU t 0)).2)
  else if dD t=13 then(.mk 13 0 0 [] (ey M (aV t)).1 [] [],decide (Y=3)&&(ey M (aV t)).2)
  else(qW (dD t),false)
def eY:L Nd->L Ty->L Vl×Bool
 |[],[]=>([],true)
 |x::l,t::r=>if(dR x t).2=true then glue [(dR x t).1] (eY l r)else([],false)
 |[],_::_=>([],false)
 |_::_,[]=>([],false)
def eV:L Nd->Ty->L Vl×Bool
 |[],_=>([],true)
 |x::l,t=>((dR x t).1::(eV l t).1,(dR x t).2&&(eV l t).2)
def ey:L Nd->L Ty->L Vl×Bool
 |[],_=>([],true)
 |.mk Y _ P _ xs::l,ts=>(.mk 11 0 0 [] (eY xs ts).1 [] []::(ey l ts).1,((eY xs ts).2&&decide (Y=2/\P=28))&&(ey l ts).2)
end
def VT(a b:L Vl)(x:L Vl×Bool):glue a (glue b x)=glue (a++b) x:=by obtain⟨q,c⟩:=x;cases c<;>simp[glue]
def Zm(x:L Vl×Bool)(h:x.2=false->x.1=[]):glue [] x=x:=by obtain⟨q,c⟩:=x;cases c;simp at h;subst h;rfl;rfl
def HU:∀(l:L Nd)(r:L Ty),(eY l r).2=false->(eY l r).1=[]
 |[],[],h=>by simp[eY]at h
 |[],_::_,_=>by simp[eY]
 |_::_,[],_=>by simp[eY]
 |x::l,t::r,h=>by
  simp only[eY]at h ⊢;by_cases D:(dR x t).2=true
  ·rw[if_pos D]at h ⊢;cases B:eY l r with
   |mk q c =>
    cases c with
    |false=>rfl
    |true=>rw[B]at h;cases h
  simp_all
def PN:∀(l:L Nd)(r:L Ty),l.length≠r.length->eY l r=([],false)
 |[],[],h=>by simp at h
 |[],_::_,_=>by simp[eY]
 |_::_,[],_=>by simp[eY]
 |x::l,t::r,h=>by simp only[eY,PN l r oe];split<;>rfl
mutual
def F7:∀(v:Vl),bD (eX v)<=aH v
 |.mk k n a s M V code=>by
  have h1:=yO M;have h2:=H8 M;simp only[eX,aH]
  repeat' split
  all_goals simp only[bD,aO,aay];omega
def yO:∀(l:L Vl),aO (eT l)<=aI l
 |[]=>by simp[eT,aO,aI]
 |x::l=>by have h1:=F7 x;have h2:=yO l;simp only[eT,aO,aI];omega
def H8:∀(l:L Vl),aO (oC l)<=aI l
 |[]=>by simp[oC,aO,aI]
 |.mk k n a s M V code::l=>by have h1:=yO M;have h2:=H8 l;simp only[oC,aO,bD,aI,aH,aay];omega
end
def VZ(a:L Vl)(x:L Vl×Bool):aI (glue a x).1<=aI a+aI x.1:=by
 obtain⟨q,c⟩:=x;cases c;simp[glue,aI];simp only[glue];have:∀a b:L Vl,aI (a++b)=aI a+aI b:=by
  intro a b
  induction a with
  |nil=>simp[aI]
  |cons x a Y=>simp only[aeN,aI];omega
 rw[this];omega
mutual
def zj:∀(n:Nd)(t:Ty),aH (dR n t).1<=bD n
 |.mk Y N P S M,t=>by
  have h1:=vu M (aV t);have h2:=Cw M (aU t 0);have K:=Cx M (aV t);have W:=vu M [aU t 0];have V:=vu M [aU t 1];simp only[dR,bD,qW]
  repeat' split
  all_goals simp only[aH,aI,bp,aO,aay];omega
def vu:∀(l:L Nd)(r:L Ty),aI (eY l r).1<=aO l
 |[],[]=>by simp[eY,aI]
 |[],_::_=>by simp[eY,aI]
 |_::_,[]=>by simp[eY,aI]
 |x::l,t::r=>by have h1:=zj x t;have h2:=vu l r;simp only[eY,aO];split;have:=VZ [(dR x t).1] (eY l r);simp only[aI]at this;omega;simp[aI]
def Cw:∀(l:L Nd)(t:Ty),aI (eV l t).1<=aO l
 |[],_=>by simp[eV,aI]
 |x::l,t=>by have h1:=zj x t;have h2:=Cw l t;simp only[eV,aO,aI];omega
def Cx:∀(l:L Nd)(ts:L Ty),aI (ey l ts).1<=aO l
 |[],_=>by simp[ey,aI]
 |.mk Y N P S xs::l,ts=>by have h1:=vu xs ts;have h2:=Cx l ts;simp only[ey,aO,bD,aI,aH,bp,aay];omega
end
def mH{k n a:Int}{s:L UInt8}{M:L Vl}{V:L Ty}{code:L Nd}{t:Ty}(h:bE (.mk k n a s M V code) t=true):pq k n a M V t=true:=by rw[abP]at h;simp at h;exact h.2.2.2
def Zw{T:Int}(h:uT T=true):T≠8/\T≠14/\T≠15:=by simp only[uT,aaN,aiC]at h;omega
def Ku{t:Ty}(h:vR uT t=true):uT (dD t)=true/\qm uT (aV t)=true:=by cases t with|mk T l=>simpa[vR,dD,aV]using h
def aaj{l:L Vl}{ts:L Ty}(h1:l.length=2)(h2:ts.length=2)(h:dA l ts=true):∃x y u w,l=[x,y]/\ts=[u,w]/\bE x u=true/\bE y w=true:=by
 match l,ts,h1,h2 with
 |[x,y],[u,w],_,_ =>
  simp only[dA]at h;grind
def V0{k:Int}{m:Nat}(h:arity k=(m:Int)):1<=k/\k<=15:=by unfold arity at h;split at h<;>omega
def aef{x:Nd}{l:L Nd}{t:Ty}{r:L Ty}(h:(eY (x::l) (t::r)).2=true):(dR x t).2=true/\(eY l r).2=true/\(eY (x::l) (t::r)).1=(dR x t).1::(eY l r).1:=by
 simp only[eY]at h ⊢;by_cases D:(dR x t).2=true
 ·rw[if_pos D]at h ⊢;rcases B:eY l r with ⟨q,c⟩
  rw[B]at h;cases c;simp[glue]at h;exact⟨D,Z,by simp[glue]⟩
 grind
def Bf{x:Nd}{l:L Nd}{d:Int}(h:dx (x::l) d=0):eW x d=0/\dx l d=0:=by simp only[dx]at h;omega
mutual
def H9:∀(n:Nd)(t:Ty)(d:Int),vR uT t=true->iC t=false->(dR n t).2=true->bE (dR n t).1 t=true->eW n d=0->eX (dR n t).1=n
 |.mk Y N P S M,t,d,B,V,hok,h,O=>by
  obtain⟨A,K⟩:=kf O;obtain⟨_,hkd,T,I,U,hA,_,_,_⟩:=nP A;have Q:=Ia M;have iha:=Ep M;have ihm:=Er M;obtain⟨Qb,iU⟩:=jD V;have W:=(Ku B).2;have hrg:=V0 Qb;have hpn:=Zw (Ku B).1;clear O A B V;rcases(by omega:dD t=1\/dD t=2\/dD t=3\/dD t=4\/dD t=5\/dD t=6\/dD t=7\/dD t=9\/dD t=10\/dD t=11\/dD t=12\/dD t=13)with C|C|C|C|C|C|C|C|C|C|C|C
  all_goals rw[C]at Qb
  simp[dR,C]at hok;obtain⟨rfl,rfl,rfl⟩:=hok;obtain rfl:=T bn;obtain rfl:=U bn;simp[dR,C,eX,qW]
  ·simp[dR,C]at hok;obtain⟨rfl,Ul,rfl⟩:=hok;obtain rfl:=T bn;obtain rfl:=U bn;rcases Ul with rfl|rfl<;>simp[dR,C,eX,qW]<;>decide
  simp[dR,C]at hok;subst hok;obtain rfl:=I bn;obtain rfl:=U bn;obtain rfl:=List.length_eq_zero_iff.1 (hA bn);simp[dR,C,eX,qW];simp[dR,C]at hok;subst hok;obtain rfl:=I bn;obtain rfl:=U bn;obtain rfl:=List.length_eq_zero_iff.1 (hA bn);simp[dR,C,eX,qW];simp[dR,C]at hok;subst hok;obtain rfl:=I bn;obtain rfl:=U bn;obtain rfl:=List.length_eq_zero_iff.1 (hA bn);simp[dR,C,eX,qW];simp[dR,C]at hok;subst hok;obtain rfl:=T bn;obtain rfl:=I bn;obtain rfl:=List.length_eq_zero_iff.1 (hA bn);simp[dR,C,eX,qW];simp[dR,C]at hok;subst hok;obtain rfl:=I bn;obtain rfl:=U bn;obtain rfl:=List.length_eq_zero_iff.1 (hA bn);simp[dR,C,eX,qW]
  ·by_cases H:Y=2/\P=27;obtain⟨rfl,rfl⟩:=H;simp[dR,C]at hok;subst hok;obtain rfl:=T bn;obtain rfl:=U bn;simp[dR,C,eX,qW,eT];by_cases c2:Y=2/\P=26
   ·obtain⟨rfl,rfl⟩:=c2;obtain rfl:=T bn;obtain rfl:=U bn;simp[dR,C]at hok h ⊢;have J:=mH h;simp[pq]at J;have ha9:arity 9=1:=(by decide);have hts:aV t=[aU t 0]:=by
     match hh:aV t,(show(aV t).length=1 by omega)with
     |[u],_=>simp[aU,hh]
    have D:dA (eY M (aV t)).1 (aV t)=true:=by
     generalize eY M (aV t)=q at J;rw[hts]
     match hq:q.1,J with
     |[],_=>simp[dA]
     |[x],J=>simp[aL,hq]at J;simp[dA,J]
     |x::y::l,J=>simp[hq]at J
    obtain⟨E,e2,e3⟩:=Q (aV t) (d+1) W iU hok D K;simp only[eX];simp only[E,e2];simp;omega
   simp[dR,C,H,c2]at hok
  simp[dR,C]at hok;obtain⟨rfl,hok⟩:=hok;obtain rfl:=T bn;obtain rfl:=I bn;obtain rfl:=U bn;simp[dR,C]at h ⊢;have J:=mH h;simp[pq]at J;have ha:arity 10=1:=(by decide);have G:aU t 0∈aV t:=mJ ai;have E:=iha (aU t 0) (d+1) (vr W G) (dO iU G) hok J.2 K;simp[eX,E];by_cases H:Y=2/\P=23;obtain⟨rfl,rfl⟩:=H;obtain rfl:=T bn;obtain rfl:=U bn;simp[dR,C]at hok h ⊢;have J:=mH h;simp[pq]at J;obtain⟨E,e2,e3⟩:=Q (aV t) (d+1) W iU hok J.2 K;simp[eX,E];simp[dR,C,H]at hok
  ·by_cases H:Y=2/\P=24
   ·obtain⟨rfl,rfl⟩:=H;obtain rfl:=T bn;obtain rfl:=U bn;simp[dR,C]at hok h ⊢;have J:=mH h;simp[pq]at J;have ha:arity 12=2:=(by decide);have G:aU t 0∈aV t:=mJ ai;have D:dA (eY M [aU t 0]).1 [aU t 0]=true:=by
     generalize eY M [aU t 0]=q at J
     match hq:q.1,J with
     |[],_=>simp[dA]
     |[x],J=>simp[aL,hq]at J;simp[dA,J]
     |x::y::l,J=>simp[hq]at J
    obtain⟨E,e2,e3⟩:=Q [aU t 0] (d+1) (by simp only[qm,agO];exact vr W G) acQ hok D K;simp[eX,E]
   by_cases c2:Y=2/\P=25
   ·obtain⟨rfl,rfl⟩:=c2;obtain rfl:=T bn;obtain rfl:=U bn;simp[dR,C]at hok h ⊢;have J:=mH h;simp[pq]at J;have ha:arity 12=2:=(by decide);have G:aU t 1∈aV t:=mJ ai;have D:dA (eY M [aU t 1]).1 [aU t 1]=true:=by
     generalize eY M [aU t 1]=q at J
     match hq:q.1,J with
     |[],_=>simp[dA]
     |[x],J=>simp[aL,hq]at J;simp[dA,J]
     |x::y::l,J=>simp[hq]at J
    obtain⟨E,e2,e3⟩:=Q [aU t 1] (d+1) (by simp only[qm,agO];exact vr W G) acQ hok D K;simp[eX,E]
   simp[dR,C,H,c2]at hok
  simp[dR,C]at hok;obtain⟨rfl,hok⟩:=hok;obtain rfl:=T bn;obtain rfl:=I bn;obtain rfl:=U bn;simp[dR,C]at h ⊢;have J:=mH h;simp[pq]at J;have ha:arity 13=2:=by decide
  have E:=ihm (aV t) (d+1) W iU ai hok J.1.2 K;simp[eX,E]
def Ia:∀(l:L Nd)(ts:L Ty)(d:Int),qm uT ts=true->oR ts=false->(eY l ts).2=true->dA (eY l ts).1 ts=true->dx l d=0->eT (eY l ts).1=l/\(eY l ts).1.length=l.length/\l.length=ts.length
 |[],[],_,_,_,_,_,_=>by simp[eY,eT]
 |[],_::_,_,_,_,h,_,_=>by simp[eY]at h
 |_::_,[],_,_,_,h,_,_=>by simp[eY]at h
 |x::l,t::ts,d,B,V,hok,h,O=>by simp only[qm,aaN]at B;simp only[oR,afV]at V;obtain⟨o1,o2,o3⟩:=aef hok;obtain⟨w1,w2⟩:=Bf O;rw[o3]at h ⊢;simp only[dA,aaN]at h;have h1:=H9 x t d B.1 V.1 o1 h.1 w1;have h2:=Ia l ts d B.2 V.2 o2 h.2 w2;simp[eT,h1,h2]
def Ep:∀(l:L Nd)(t:Ty)(d:Int),vR uT t=true->iC t=false->(eV l t).2=true->aL (eV l t).1 t=true->dx l d=0->eT (eV l t).1=l
 |[],_,_,_,_,_,_,_=>by simp[eV,eT]
 |x::l,t,d,B,V,hok,h,O=>by obtain⟨w1,w2⟩:=Bf O;simp only[eV,aaN]at hok;simp only[eV,aL,aaN]at h;have h1:=H9 x t d B V hok.1 h.1 w1;have h2:=Ep l t d B V hok.2 h.2 w2;simp[eV,eT,h1,h2]
def Er:∀(l:L Nd)(ts:L Ty)(d:Int),qm uT ts=true->oR ts=false->ts.length=2->(ey l ts).2=true->aL (ey l ts).1 (.mk 11 ts)=true->dx l d=0->oC (ey l ts).1=l
 |[],_,_,_,_,_,_,_,_=>by simp[ey,oC]
 |.mk Y N P S xs::l,ts,d,B,V,h2l,hok,h,O=>by obtain⟨w1,w2⟩:=Bf O;obtain⟨A,K⟩:=kf w1;obtain⟨_,hkd,T,I,U,hA,_,_,_⟩:=nP A;simp only[ey,aaN,agh]at hok;obtain⟨⟨N8,rfl,rfl⟩,QY⟩:=hok;obtain rfl:=T bn;obtain rfl:=U bn;simp only[ey,aL,aaN]at h;have J:=mH h.1;simp[pq,aV]at J;have h1:=Ia xs ts (d+1) B V N8 J.2 K;have h2:=Er l ts d B V h2l QY h.2 w2;simp[ey,oC,h1,h2]
end
def gJ(t:Ty)(n:Nd):Vl×Int:=if br t=true/\dZ n=0/\(dR n t).2=true/\bE (dR n t).1 t=true then((dR n t).1,0)else(lC,1)
def aje(t:Ty)(v:Vl):Nd×Int:=if oA t v=true/\ig t=true then(if dZ (eX v)=0 then(eX v,0)else(vw,dZ (eX v)))else(vw,5)
def wL(v:Vl):L UInt8×Int:=if dZ (eX v)=0 then(if 200<=(eJ (eX v)).length then([],4)else(5::eJ (eX v),0))else([],dZ (eX v))
def ajf(t:Ty)(v:Vl):L UInt8×Int:=if oA t v=true/\ig t=true then wL v else([],5)
def iK(t:Ty)(s:L UInt8):Vl×Int:=match s with
 |[]=>(lC,1)
 |c::r=>if c=5/\(c::r).length<=200/\ig t=true/\(fJ r).2=0 then gJ t (fJ r).1 else(lC,1)
def CN{t:Ty}{n:Nd}(h:(gJ t n).2=0):oA t (gJ t n).1=true/\dZ n=0/\(ig t=true->eX (gJ t n).1=n):=by
 unfold gJ at h ⊢;split at h
 ·rename_i Y;rw[if_pos Y];have U:iC t=false:=by
   cases U:iC t with
   |false=>rfl
   |true =>
    have h1:=HM t 24 300 U;rw[Kf,Y.1]at h1;cases h1
  refine⟨by unfold oA;simp only[Y.1,Y.2.2.2];rfl,Y.2.1,λS=>?_⟩;exact H9 n t 1 S U Y.2.2.1 Y.2.2.2 (kH.1 Y.2.1).1
 cases h
def zh(t:Ty)(n:Nd):aH (gJ t n).1<=bD n:=by unfold gJ;split;exact zj n t;exact HK n
end Go.cw
