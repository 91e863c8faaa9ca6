/- Package run: -/
import Derived.Test.YtdnpapgijbhofaaGreatDoorRunURt
set_option linter.defProp false
set_option linter.unusedVariables false
set_option linter.unusedSimpArgs false
namespace Go.Proofs
open Go.cB
def xJ{P:Int}{args:L Nd}{types:L Ty}(h:br P args=some types)(C:fF P=[116]):∃x,args=[x]/\(aO x).2=0/\types=[(aO x).1]:=by obtain⟨h1,h2⟩:=jx h;rw[C]at h1 h2;obtain⟨y,rfl⟩:=List.length_eq_one_iff.1 h1;obtain⟨u,N,p,q,x⟩:=y;have U:(if(aO (.mk u N p q x)).2=0 then some ([]++[(aO (.mk u N p q x)).1])else none)=some types:=h2;split at U;simp_all;cases U
def dJ{t:Ty}{v:Vl}(Q:bg t=true)(h:bz v t=true/\ey v=true):iK t v=true:=by unfold iK pF;rw[Q,h.1,h.2];rfl
def bO{t:Ty}{v:Vl}(h:iK t v=true):bg t=true/\bz v t=true/\ey v=true:=by unfold iK pF at h;simp only[aak]at h;exact⟨h.1.1,h.1.2,h.2⟩
def bw{t:Ty}{s:L Ty}(h:(t::s).all bg=true):bg t=true:=by simp_all
def Kp{t:Ty}{s:L Ty}(h:(t::s).all bg=true):s.all bg=true:=by simp_all
def Iv:bD 46=2:=by decide +kernel
def Iz:bD 47=1:=by decide +kernel
def IA:bD 48=1:=by decide +kernel
def IB:bD 49=1:=by decide +kernel
def Iw:bD 50=1:=by decide +kernel
def Ix:bD 51=1:=by decide +kernel
def Iy:bD 53=1:=by decide +kernel
def Is:bD 54=0:=by decide +kernel
def Iu:bD 56=0:=by decide +kernel
def Nb(S:bE)(G:Int)(Y:L UInt8)(args:L Nd)(codes:L (L Ty->CR))(types s:L Ty)(r:L Ty×Bool)(hf:br 46 args=some types)(C:cD s S.st)(U:s.length<=340)(Q:r.1.all bg=true)(D:cF 46 codes types s=(r,0)):aW G Y 46 args S/\bG S r (aq 46 args S):=by
 obtain⟨a,b,c,d,st,I,g,u,m,B⟩:=S;obtain⟨rfl,rfl⟩:=ct hf cc;have O:=bq C;simp only at C O;rcases s with _|⟨P,_|⟨N,s⟩⟩
 cases D;cases D;obtain⟨v,M,rfl,W,E⟩:=aF C;obtain⟨w,q,rfl,V,hq⟩:=aF E;cases D;have T:=bO W.1;have A:=bO V.1;have e:aq 46 [] ⟨a,b,c,d,v::w::q,I,g,u,m,B⟩=aQ ⟨a,b,c,d,q,I,g,u,m,B⟩ [aY v w]:=by unfold aq;rw[Iv];rfl
 unfold aW;rw[e]
 try simp only[aaa]at O U
 exact⟨iI _ _ 2 G 46 Y _ [v,w] q _ cc (by rw[Iv];rfl) (by show List.length (v::w::q)<=_;simp only[aaa];omega) (ME ⟨a,b,c,d,q,I,g,u,m,B⟩ G Y v w (by have:=W.2;have:=V.2;simp only[aY,aE,aB,aU,aM,aab];omega) cm),bP (S:=⟨a,b,c,d,q,I,g,u,m,B⟩) (dJ (bw Q) (kj T.2 A.2)) hq⟩
def H6(S:bE)(G:Int)(Y:L UInt8)(args:L Nd)(codes:L (L Ty->CR))(types s:L Ty)(r:L Ty×Bool)(hf:br 47 args=some types)(C:cD s S.st)(P:s.length<=340)(Q:r.1.all bg=true)(D:cF 47 codes types s=(r,0)):aW G Y 47 args S/\bG S r (aq 47 args S):=by
 obtain⟨a,b,c,d,st,I,g,u,m,B⟩:=S;obtain⟨rfl,rfl⟩:=ct hf cc;have V:=bq C;simp only at C V;cases s with
 |nil=>cases D
 |cons t s =>
 obtain⟨v,q,rfl,U,hq⟩:=aF C;have O:=bO U.1;have W:(if cq t=11 then eB (aK t++s)else aX 5)=(r,0):=D;split at W;rotate_left;cases W;rename_i p;obtain⟨T,ts⟩:=t;simp only[cq]at p;subst p;obtain⟨J,H,rfl,E,A⟩:=cJ (bl O.1) cc;obtain⟨x,y,rfl,N,M⟩:=lg O.2.1 O.2.2;cases W;have K:=U.2;simp only[aY,aE,aB,aU,aM,aab]at K;have e:aq 47 [] ⟨a,b,c,d,aY x y::q,I,g,u,m,B⟩=aQ ⟨a,b,c,d,q,I,g,u,m,B⟩ [y,x]:=by unfold aq;rw[Iz];rfl
 unfold aW;rw[e]
 try simp only[aaa]at V P
 exact⟨iI _ _ 2 G 47 Y _ [aY x y] q _ cc (by rw[Iz];rfl) u6 (MJ ⟨a,b,c,d,q,I,g,u,m,B⟩ G Y 11 0 0 [] x y [] [] bn bn cm),HM (S:=⟨a,b,c,d,q,I,g,u,m,B⟩) (dJ (bw Q) N) (dJ (bw (Kp Q)) M) hq⟩
def P2(S:bE)(G:Int)(Y:L UInt8)(args:L Nd)(codes:L (L Ty->CR))(types s:L Ty)(r:L Ty×Bool)(hf:br 48 args=some types)(C:cD s S.st)(Q:s.length<=340)(P:r.1.all bg=true)(D:cF 48 codes types s=(r,0)):aW G Y 48 args S/\bG S r (aq 48 args S):=by
 obtain⟨a,b,c,d,st,I,g,u,m,B⟩:=S;obtain⟨rfl,rfl⟩:=ct hf cc;have V:=bq C;simp only at C V;cases s with
 |nil=>cases D
 |cons t s =>
 obtain⟨v,q,rfl,U,hq⟩:=aF C;have O:=bO U.1;have W:(if cq t=11 then eB (aG t 0::s)else aX 5)=(r,0):=D;split at W;rotate_left;cases W;rename_i p;obtain⟨T,ts⟩:=t;simp only[cq]at p;subst p;obtain⟨K,J,rfl,H,E⟩:=cJ (bl O.1) cc;obtain⟨x,y,rfl,N,A⟩:=lg O.2.1 O.2.2;cases W;have M:=U.2;simp only[aY,aE,aB,aU,aM,aab]at M;have e:aq 48 [] ⟨a,b,c,d,aY x y::q,I,g,u,m,B⟩=aQ ⟨a,b,c,d,q,I,g,u,m,B⟩ [x]:=by unfold aq;rw[IA];rfl
 unfold aW;rw[e]
 try simp only[aaa]at V Q
 exact⟨iI _ _ 2 G 48 Y _ [aY x y] q _ cc (by rw[IA];rfl) u6 (MK ⟨a,b,c,d,q,I,g,u,m,B⟩ G Y 11 0 0 [] x y [] [] bn cm),bP (S:=⟨a,b,c,d,q,I,g,u,m,B⟩) (dJ (bw P) N) hq⟩
def P3(S:bE)(G:Int)(Y:L UInt8)(args:L Nd)(codes:L (L Ty->CR))(types s:L Ty)(r:L Ty×Bool)(hf:br 49 args=some types)(C:cD s S.st)(Q:s.length<=340)(P:r.1.all bg=true)(D:cF 49 codes types s=(r,0)):aW G Y 49 args S/\bG S r (aq 49 args S):=by
 obtain⟨a,b,c,d,st,I,g,u,m,B⟩:=S;obtain⟨rfl,rfl⟩:=ct hf cc;have V:=bq C;simp only at C V;cases s with
 |nil=>cases D
 |cons t s =>
 obtain⟨v,q,rfl,U,hq⟩:=aF C;have O:=bO U.1;have W:(if cq t=11 then eB (aG t 1::s)else aX 5)=(r,0):=D;split at W;rotate_left;cases W;rename_i p;obtain⟨T,ts⟩:=t;simp only[cq]at p;subst p;obtain⟨K,J,rfl,H,E⟩:=cJ (bl O.1) cc;obtain⟨x,y,rfl,A,N⟩:=lg O.2.1 O.2.2;cases W;have M:=U.2;simp only[aY,aE,aB,aU,aM,aab]at M;have e:aq 49 [] ⟨a,b,c,d,aY x y::q,I,g,u,m,B⟩=aQ ⟨a,b,c,d,q,I,g,u,m,B⟩ [y]:=by unfold aq;rw[IB];rfl
 unfold aW;rw[e]
 try simp only[aaa]at V Q
 exact⟨iI _ _ 2 G 49 Y _ [aY x y] q _ cc (by rw[IB];rfl) u6 (ML ⟨a,b,c,d,q,I,g,u,m,B⟩ G Y 11 0 0 [] x y [] [] bn cm),bP (S:=⟨a,b,c,d,q,I,g,u,m,B⟩) (dJ (bw P) N) hq⟩
def Nf(S:bE)(G:Int)(Y:L UInt8)(args:L Nd)(codes:L (L Ty->CR))(types s:L Ty)(r:L Ty×Bool)(hf:br 53 args=some types)(C:cD s S.st)(V:s.length<=340)(Q:r.1.all bg=true)(D:cF 53 codes types s=(r,0)):aW G Y 53 args S/\bG S r (aq 53 args S):=by
 obtain⟨a,b,c,d,st,I,g,u,m,B⟩:=S;obtain⟨rfl,rfl⟩:=ct hf cc;have O:=bq C;simp only at C O;cases s with
 |nil=>cases D
 |cons t s =>
 obtain⟨v,q,rfl,W,hq⟩:=aF C;cases D;have U:=bO W.1;have e:aq 53 [] ⟨a,b,c,d,v::q,I,g,u,m,B⟩=aQ ⟨a,b,c,d,q,I,g,u,m,B⟩ [bN [v]]:=by unfold aq;rw[Iy];rfl
 unfold aW;rw[e]
 try simp only[aaa]at O V
 exact⟨iI _ _ 2 G 53 Y _ [v] q _ cc (by rw[Iy];rfl) Bx (MH ⟨a,b,c,d,q,I,g,u,m,B⟩ G Y v EG cm),bP (S:=⟨a,b,c,d,q,I,g,u,m,B⟩) (dJ (bw Q) (iy U.2)) hq⟩
def Nc(S:bE)(G:Int)(Y:L UInt8)(args:L Nd)(codes:L (L Ty->CR))(types s:L Ty)(r:L Ty×Bool)(hf:br 50 args=some types)(C:cD s S.st)(V:s.length<=340)(Q:r.1.all bg=true)(D:cF 50 codes types s=(r,0)):aW G Y 50 args S/\bG S r (aq 50 args S):=by
 obtain⟨a,b,c,d,st,I,g,u,m,B⟩:=S;obtain⟨x,rfl,N,rfl⟩:=xJ hf cc;have O:=bq C;simp only at C O;cases s with
 |nil=>cases D
 |cons t s =>
 obtain⟨v,q,rfl,W,hq⟩:=aF C;cases D;have U:=bO W.1;have e:aq 50 [x] ⟨a,b,c,d,v::q,I,g,u,m,B⟩=aQ ⟨a,b,c,d,q,I,g,u,m,B⟩ [.mk 12 (50-50) 0 [] [v] [] []]:=by unfold aq;rw[Iw];rfl
 unfold aW;rw[e]
 try simp only[aaa]at O V
 exact⟨iI _ _ 2 G 50 Y _ [v] q _ cc (by rw[Iw];rfl) Bx (MF ⟨a,b,c,d,q,I,g,u,m,B⟩ G Y x v EG cm),bP (S:=⟨a,b,c,d,q,I,g,u,m,B⟩) (dJ (bw Q) (VJ U.2)) hq⟩
def KN(S:bE)(G:Int)(Y:L UInt8)(args:L Nd)(codes:L (L Ty->CR))(types s:L Ty)(r:L Ty×Bool)(hf:br 51 args=some types)(C:cD s S.st)(V:s.length<=340)(Q:r.1.all bg=true)(D:cF 51 codes types s=(r,0)):aW G Y 51 args S/\bG S r (aq 51 args S):=by
 obtain⟨a,b,c,d,st,I,g,u,m,B⟩:=S;obtain⟨x,rfl,N,rfl⟩:=xJ hf cc;have O:=bq C;simp only at C O;cases s with
 |nil=>cases D
 |cons t s =>
 obtain⟨v,q,rfl,W,hq⟩:=aF C;cases D;have U:=bO W.1;have e:aq 51 [x] ⟨a,b,c,d,v::q,I,g,u,m,B⟩=aQ ⟨a,b,c,d,q,I,g,u,m,B⟩ [.mk 12 (51-50) 0 [] [v] [] []]:=by unfold aq;rw[Ix];rfl
 unfold aW;rw[e]
 try simp only[aaa]at O V
 exact⟨iI _ _ 2 G 51 Y _ [v] q _ cc (by rw[Ix];rfl) Bx (MG ⟨a,b,c,d,q,I,g,u,m,B⟩ G Y x v EG cm),bP (S:=⟨a,b,c,d,q,I,g,u,m,B⟩) (dJ (bw Q) (VK U.2)) hq⟩
def Ng(S:bE)(G:Int)(Y:L UInt8)(args:L Nd)(codes:L (L Ty->CR))(types s:L Ty)(r:L Ty×Bool)(hf:br 54 args=some types)(C:cD s S.st)(V:s.length<=340)(Q:r.1.all bg=true)(D:cF 54 codes types s=(r,0)):aW G Y 54 args S/\bG S r (aq 54 args S):=by
 obtain⟨a,b,c,d,st,I,g,u,m,B⟩:=S;obtain⟨x,rfl,N,rfl⟩:=xJ hf cc;have O:=bq C;simp only at C O;cases D;have e:aq 54 [x] ⟨a,b,c,d,st,I,g,u,m,B⟩=aQ ⟨a,b,c,d,st,I,g,u,m,B⟩ [bN []]:=by unfold aq;rw[Is];rfl
 unfold aW;rw[e]
 try simp only[aaa]at O V
 exact⟨iI _ _ 2 G 54 Y _ [] st _ cc (by rw[Is];rfl) QF (MI ⟨a,b,c,d,st,I,g,u,m,B⟩ G Y x cc QF),bP (S:=⟨a,b,c,d,st,I,g,u,m,B⟩) (dJ (bw Q) mG) C⟩
def P4(S:bE)(G:Int)(Y:L UInt8)(args:L Nd)(codes:L (L Ty->CR))(types s:L Ty)(r:L Ty×Bool)(hf:br 56 args=some types)(C:cD s S.st)(V:s.length<=340)(Q:r.1.all bg=true)(D:cF 56 codes types s=(r,0)):aW G Y 56 args S/\bG S r (aq 56 args S):=by
 obtain⟨a,b,c,d,st,I,g,u,m,B⟩:=S;obtain⟨x,rfl,N,rfl⟩:=xJ hf cc;have O:=bq C;simp only at C O;cases D;have e:aq 56 [x] ⟨a,b,c,d,st,I,g,u,m,B⟩=aQ ⟨a,b,c,d,st,I,g,u,m,B⟩ [.mk 10 0 0 [] [] [] []]:=by unfold aq;rw[Iu];rfl
 unfold aW;rw[e]
 try simp only[aaa]at O V
 exact⟨iI _ _ 2 G 56 Y _ [] st _ cc (by rw[Iu];rfl) QF (PM ⟨a,b,c,d,st,I,g,u,m,B⟩ G Y x cc QF),bP (S:=⟨a,b,c,d,st,I,g,u,m,B⟩) (dJ (bw Q) (yq cc Z Z)) C⟩
def B8:bD 69=2:=by decide +kernel
def qL:bD 70=2:=by decide +kernel
def B9:bD 71=2:=by decide +kernel
def jR:bD 72=2:=by decide +kernel
def O0:bD 93=1:=by decide +kernel
def Ca:bD 94=1:=by decide +kernel
def O1:bD 95=1:=by decide +kernel
def gy{n:Int}:tQ n=true ↔ -bF<=n/\n<=bF:=by unfold tQ bF;simp;try omega
def iM{T n:Int}{ts:L Ty}(q:T=3\/T=4\/T=5)(h:bz (aI T n) (.mk T ts)=true):(-bF<=n/\n<=bF)/\(T≠3->0<=n):=by
 obtain⟨_,U,P,Q,_⟩:=MY h;rcases q with rfl|rfl|rfl
 omega;omega;omega
def iH{T n:Int}(q:T=3\/T=4\/T=5)(h : -bF<=n/\n<=bF)(M:T≠3->0<=n):bz (aI T n) (.mk T [])=true/\ey (aI T n)=true:=by
 rcases q with rfl|rfl|rfl
 exact mF (.inr (.inl ⟨Z,h⟩));exact mF (.inr (.inr (.inl ⟨Z,M cc,h.2⟩)));exact mF (.inr (.inr (.inr (.inl ⟨Z,M cc,h.2⟩))))
def Cb{P a b:Int}(h:¬kY P a b=0):(a=5/\b=5/\(P=69\/P=70\/P=72))\/(P=71/\(a=5/\b=4\/a=4/\b=5))\/(P=72/\a=5/\b=4)\/((a=3\/a=4)/\(b=3\/b=4)):=by unfold kY at h;by_cases p:a=5/\b=5/\(P=69\/P=70\/P=72);exact .inl p;rw[if_neg p]at h;by_cases M:P=71/\(a=5/\b=4\/a=4/\b=5);exact .inr (.inl M);rw[if_neg M]at h;by_cases Y:P=72/\a=5/\b=4;exact .inr (.inr (.inl Y));rw[if_neg Y]at h;by_cases c4:(a=3\/a=4)/\(b=3\/b=4);exact .inr (.inr (.inr c4));rw[if_neg c4]at h;exact absurd rfl h
def K5(P a b:Int)(T:P=69\/P=71)(h:¬kY P a b=0):ofM P a b=kY P a b/\(kY P a b=3\/kY P a b=4\/kY P a b=5)/\(a=3\/a=4\/a=5)/\(b=3\/b=4\/b=5)/\(kY P a b≠3->a≠3/\b≠3):=by rcases Cb h with ⟨rfl,rfl,h1⟩|⟨h1,⟨rfl,rfl⟩|⟨rfl,rfl⟩⟩|⟨h1,rfl,rfl⟩|⟨rfl|rfl,rfl|rfl⟩<;>rcases T with rfl|rfl<;>first|decide|omega
def PS(S:bE)(G:Int)(U:L UInt8)(args:L Nd)(types s:L Ty)(r:L Ty×Bool)(hf:br 69 args=some types)(C:cD s S.st)(H:s.length<=340)(A:r.1.all bg=true)(D:dV 69 s=(r,0)):aW G U 69 args S/\bG S r (aq 69 args S):=by
 obtain⟨a,b,c,d,st,I,g,u,m,B⟩:=S;obtain⟨rfl,rfl⟩:=ct hf cc;have N:=bq C;simp only at C N;rcases s with _|⟨p,_|⟨t2,s⟩⟩
 cases D;cases D;obtain⟨v,q0,rfl,hv,oU⟩:=aF C;obtain⟨w,q,rfl,hw,hq⟩:=aF oU;have f1:=bO hv.1;have f2:=bO hw.1;obtain⟨Q,xz⟩:=p;obtain⟨W,wO⟩:=t2;have T:(if kY 69 Q W=0 then aX 5 else eB (.mk (kY 69 Q W) []::s))=(r,0):=D;split at T;cases T;rename_i c1;cases T;have E:=K5 69 Q W cc c1;obtain⟨K,rfl,g1⟩:=fh (by have:=E.2.2.1;omega) f1.2.1;obtain⟨Y,rfl,g2⟩:=fh (by have:=E.2.2.2.1;omega) f2.2.1;have J:=iM E.2.2.1 g1;have P:=iM E.2.2.2.1 g2;simp only[aaa]at N H;unfold aW;by_cases O:tQ (K+Y)=true
 ·have V:sQ K Y=(K+Y,0):=by unfold sQ;rw[if_pos ⟨gy.2 J.1,gy.2 P.1⟩];unfold kT;rw[if_pos O]
  have e:aq 69 [] ⟨a,b,c,d,aI Q K::aI W Y::q,I,g,u,m,B⟩=aQ ⟨a,b,c,d,q,I,g,u,m,B⟩ [aI (ofM 69 Q W) (K+Y)]:=by unfold aq;rw[B8];show(if(sQ K Y).2≠0 then(((sQ K Y).2,⟨a,b,c,d,q,I,g,u,m,B⟩):MR)else aQ ⟨a,b,c,d,q,I,g,u,m,B⟩ [aI (ofM 69 Q W) (sQ K Y).1])=_;rw[V];rfl
  rw[e]
  exact⟨dO _ _ 2 G 69 U _ [aI Q K,aI W Y] q _ cc (by rw[B8];rfl) gn (E1 ⟨a,b,c,d,q,I,g,u,m,B⟩ Q K 0 [] [] [] [] W Y 0 [] [] [] [] (K+Y) V cm),
   bP (S:=⟨a,b,c,d,q,I,g,u,m,B⟩) (dJ (bw A) (by rw[E.1];exact iH E.2.1 (gy.1 O) (λM=>by have:=E.2.2.2.2 M;have:=J.2 this.1;have:=P.2 (E.2.2.2.2 M).2;omega))) hq⟩
 have V:sQ K Y=(0,11):=by unfold sQ;rw[if_pos ⟨gy.2 J.1,gy.2 P.1⟩];unfold kT;rw[if_neg O]
 have e:aq 69 [] ⟨a,b,c,d,aI Q K::aI W Y::q,I,g,u,m,B⟩=(11,⟨a,b,c,d,q,I,g,u,m,B⟩):=by unfold aq;rw[B8];show(if(sQ K Y).2≠0 then(((sQ K Y).2,⟨a,b,c,d,q,I,g,u,m,B⟩):MR)else aQ ⟨a,b,c,d,q,I,g,u,m,B⟩ [aI (ofM 69 Q W) (sQ K Y).1])=_;rw[V];rfl
 rw[e];exact⟨dO _ _ 2 G 69 U _ [aI Q K,aI W Y] q _ cc (by rw[B8];rfl) gn (DW ⟨a,b,c,d,q,I,g,u,m,B⟩ Q K 0 [] [] [] [] W Y 0 [] [] [] [] 0 11 cc V cm),.inr (.inl Z)⟩
def PU(S:bE)(G:Int)(U:L UInt8)(args:L Nd)(types s:L Ty)(r:L Ty×Bool)(hf:br 71 args=some types)(C:cD s S.st)(H:s.length<=340)(A:r.1.all bg=true)(D:dV 71 s=(r,0)):aW G U 71 args S/\bG S r (aq 71 args S):=by
 obtain⟨a,b,c,d,st,I,g,u,m,B⟩:=S;obtain⟨rfl,rfl⟩:=ct hf cc;have N:=bq C;simp only at C N;rcases s with _|⟨p,_|⟨t2,s⟩⟩
 cases D;cases D;obtain⟨v,q0,rfl,hv,oU⟩:=aF C;obtain⟨w,q,rfl,hw,hq⟩:=aF oU;have f1:=bO hv.1;have f2:=bO hw.1;obtain⟨Q,xz⟩:=p;obtain⟨W,wO⟩:=t2;have T:(if kY 71 Q W=0 then aX 5 else eB (.mk (kY 71 Q W) []::s))=(r,0):=D;split at T;cases T;rename_i c1;cases T;have E:=K5 71 Q W cc c1;obtain⟨K,rfl,g1⟩:=fh (by have:=E.2.2.1;omega) f1.2.1;obtain⟨Y,rfl,g2⟩:=fh (by have:=E.2.2.2.1;omega) f2.2.1;have J:=iM E.2.2.1 g1;have P:=iM E.2.2.2.1 g2;simp only[aaa]at N H;unfold aW;by_cases O:tQ (K*Y)=true
 ·have V:qT K Y=(K*Y,0):=by unfold qT;rw[if_pos ⟨gy.2 J.1,gy.2 P.1⟩];unfold kT;rw[if_pos O]
  have e:aq 71 [] ⟨a,b,c,d,aI Q K::aI W Y::q,I,g,u,m,B⟩=aQ ⟨a,b,c,d,q,I,g,u,m,B⟩ [aI (ofM 71 Q W) (K*Y)]:=by unfold aq;rw[B9];show(if(qT K Y).2≠0 then(((qT K Y).2,⟨a,b,c,d,q,I,g,u,m,B⟩):MR)else aQ ⟨a,b,c,d,q,I,g,u,m,B⟩ [aI (ofM 71 Q W) (qT K Y).1])=_;rw[V];rfl
  rw[e]
  exact⟨dO _ _ 2 G 71 U _ [aI Q K,aI W Y] q _ cc (by rw[B9];rfl) gn (E2 ⟨a,b,c,d,q,I,g,u,m,B⟩ Q K 0 [] [] [] [] W Y 0 [] [] [] [] (K*Y) V cm),
   bP (S:=⟨a,b,c,d,q,I,g,u,m,B⟩) (dJ (bw A) (by rw[E.1];exact iH E.2.1 (gy.1 O) (λM=>Int.mul_nonneg (J.2 (E.2.2.2.2 M).1) (P.2 (E.2.2.2.2 M).2)))) hq⟩
 have V:qT K Y=(0,11):=by unfold qT;rw[if_pos ⟨gy.2 J.1,gy.2 P.1⟩];unfold kT;rw[if_neg O]
 have e:aq 71 [] ⟨a,b,c,d,aI Q K::aI W Y::q,I,g,u,m,B⟩=(11,⟨a,b,c,d,q,I,g,u,m,B⟩):=by unfold aq;rw[B9];show(if(qT K Y).2≠0 then(((qT K Y).2,⟨a,b,c,d,q,I,g,u,m,B⟩):MR)else aQ ⟨a,b,c,d,q,I,g,u,m,B⟩ [aI (ofM 71 Q W) (qT K Y).1])=_;rw[V];rfl
 rw[e];exact⟨dO _ _ 2 G 71 U _ [aI Q K,aI W Y] q _ cc (by rw[B9];rfl) gn (DX ⟨a,b,c,d,q,I,g,u,m,B⟩ Q K 0 [] [] [] [] W Y 0 [] [] [] [] 0 11 cc V cm),.inr (.inl Z)⟩
def PW(S:bE)(G:Int)(W:L UInt8)(args:L Nd)(types s:L Ty)(r:L Ty×Bool)(hf:br 93 args=some types)(C:cD s S.st)(V:s.length<=340)(Q:r.1.all bg=true)(D:dV 93 s=(r,0)):aW G W 93 args S/\bG S r (aq 93 args S):=by
 obtain⟨a,b,c,d,st,I,g,u,m,B⟩:=S;obtain⟨rfl,rfl⟩:=ct hf cc;have O:=bq C;simp only at C O;cases s with
 |nil=>cases D
 |cons t s =>
 obtain⟨v,q,rfl,U,hq⟩:=aF C;have P:=bO U.1;obtain⟨T,ts⟩:=t;simp only[aaa]at O V;have Y:(if T=3 then eB (.mk 4 []::s)else aX 5)=(r,0):=D;split at Y;rotate_left;cases Y;rename_i p;subst p;cases Y;obtain⟨n,rfl,g1⟩:=fh cc P.2.1;have J:=iM cc g1;unfold aW;have E:mS n=(if n<0 then -n else n,0):=by unfold mS;rw[if_pos (gy.2 J.1)]
 have e:aq 93 [] ⟨a,b,c,d,aI 3 n::q,I,g,u,m,B⟩=aQ ⟨a,b,c,d,q,I,g,u,m,B⟩ [aI 4 (mS n).1]:=by unfold aq;rw[O0];rfl
 rw[e];exact⟨dO _ _ 2 G 93 W _ [aI 3 n] q _ cc (by rw[O0];rfl) ko (Nv ⟨a,b,c,d,q,I,g,u,m,B⟩ 3 n 0 [] [] [] [] cm),bP (S:=⟨a,b,c,d,q,I,g,u,m,B⟩) (dJ (bw Q) (iH cc (by rw[E];have:=J.1;show _<=(if n<0 then -n else n)/\(if n<0 then -n else n)<=_;split<;>constructor<;>(unfold bF at *;omega)) (λ_=>by rw[E];show 0<=(if n<0 then -n else n);split<;>omega))) hq⟩
def PX(S:bE)(G:Int)(Y:L UInt8)(args:L Nd)(types s:L Ty)(r:L Ty×Bool)(hf:br 94 args=some types)(C:cD s S.st)(V:s.length<=340)(Q:r.1.all bg=true)(D:dV 94 s=(r,0)):aW G Y 94 args S/\bG S r (aq 94 args S):=by
 obtain⟨a,b,c,d,st,I,g,u,m,B⟩:=S;obtain⟨rfl,rfl⟩:=ct hf cc;have O:=bq C;simp only at C O;cases s with
 |nil=>cases D
 |cons t s =>
 obtain⟨v,q,rfl,U,hq⟩:=aF C;have P:=bO U.1;obtain⟨T,ts⟩:=t;simp only[aaa]at O V;have W:(if T=3 then eB (.mk 9 [.mk 4 []]::s)else aX 5)=(r,0):=D;split at W;rotate_left;cases W;rename_i p;subst p;cases W;obtain⟨n,rfl,g1⟩:=fh cc P.2.1;have J:=iM cc g1;unfold aW;by_cases M:n<0
 ·have e:aq 94 [] ⟨a,b,c,d,aI 3 n::q,I,g,u,m,B⟩=aQ ⟨a,b,c,d,q,I,g,u,m,B⟩ [bN []]:=by unfold aq;rw[Ca];show(if n<0 then aQ ⟨a,b,c,d,q,I,g,u,m,B⟩ [bN []]else aQ ⟨a,b,c,d,q,I,g,u,m,B⟩ [bN [aI 4 n]])=_;rw[if_pos M]
  rw[e];exact⟨dO _ _ 2 G 94 Y _ [aI 3 n] q _ cc (by rw[Ca];rfl) ko (KW ⟨a,b,c,d,q,I,g,u,m,B⟩ 3 n 0 [] [] [] [] M cm),bP (S:=⟨a,b,c,d,q,I,g,u,m,B⟩) (dJ (bw Q) mG) hq⟩
 have e:aq 94 [] ⟨a,b,c,d,aI 3 n::q,I,g,u,m,B⟩=aQ ⟨a,b,c,d,q,I,g,u,m,B⟩ [bN [aI 4 n]]:=by unfold aq;rw[Ca];show(if n<0 then aQ ⟨a,b,c,d,q,I,g,u,m,B⟩ [bN []]else aQ ⟨a,b,c,d,q,I,g,u,m,B⟩ [bN [aI 4 n]])=_;rw[if_neg M]
 rw[e];exact⟨dO _ _ 2 G 94 Y _ [aI 3 n] q _ cc (by rw[Ca];rfl) ko (KX ⟨a,b,c,d,q,I,g,u,m,B⟩ 3 n 0 [] [] [] [] M cm),bP (S:=⟨a,b,c,d,q,I,g,u,m,B⟩) (dJ (bw Q) (iy (iH cc J.1 (λ_=>by omega)))) hq⟩
def PY(S:bE)(G:Int)(W:L UInt8)(args:L Nd)(types s:L Ty)(r:L Ty×Bool)(hf:br 95 args=some types)(C:cD s S.st)(V:s.length<=340)(Q:r.1.all bg=true)(D:dV 95 s=(r,0)):aW G W 95 args S/\bG S r (aq 95 args S):=by
 obtain⟨a,b,c,d,st,I,g,u,m,B⟩:=S;obtain⟨rfl,rfl⟩:=ct hf cc;have O:=bq C;simp only at C O;cases s with
 |nil=>cases D
 |cons t s =>
 obtain⟨v,q,rfl,U,hq⟩:=aF C;have P:=bO U.1;obtain⟨T,ts⟩:=t;simp only[aaa]at O V;have Y:(if T=4 then eB (.mk 3 []::s)else aX 5)=(r,0):=D;split at Y;rotate_left;cases Y;rename_i p;subst p;cases Y;obtain⟨n,rfl,g1⟩:=fh cc P.2.1;have J:=iM cc g1;unfold aW;have e:aq 95 [] ⟨a,b,c,d,aI 4 n::q,I,g,u,m,B⟩=aQ ⟨a,b,c,d,q,I,g,u,m,B⟩ [aI 3 n]:=by unfold aq;rw[O1];rfl
 rw[e];exact⟨dO _ _ 2 G 95 W _ [aI 4 n] q _ cc (by rw[O1];rfl) (by show List.length (aI 4 n::q)<=_;simp only[aaa];omega) (Nw ⟨a,b,c,d,q,I,g,u,m,B⟩ 4 n 0 [] [] [] [] cm),bP (S:=⟨a,b,c,d,q,I,g,u,m,B⟩) (dJ (bw Q) (iH cc J.1 (λh=>absurd Z h))) hq⟩
def PT(S:bE)(G:Int)(P:L UInt8)(args:L Nd)(types s:L Ty)(r:L Ty×Bool)(hf:br 70 args=some types)(C:cD s S.st)(hl:s.length<=340)(N:r.1.all bg=true)(D:dV 70 s=(r,0)):aW G P 70 args S/\bG S r (aq 70 args S):=by
 obtain⟨a,b,c,d,st,I,g,u,m,B⟩:=S;obtain⟨rfl,rfl⟩:=ct hf cc;have J:=bq C;simp only at C J;rcases s with _|⟨t1,_|⟨t2,s⟩⟩
 cases D;cases D;obtain⟨v,q0,rfl,hv,oU⟩:=aF C;obtain⟨w,q,rfl,hw,hq⟩:=aF oU;have f1:=bO hv.1;have f2:=bO hw.1;obtain⟨Q,xz⟩:=t1;obtain⟨W,wO⟩:=t2;simp only[aaa]at J hl;have T:(if kY 70 Q W=0 then aX 5 else if(70:Int)=70/\kY 70 Q W=5 then eB (.mk 9 [.mk 5 []]::s)else eB (.mk (kY 70 Q W) []::s))=(r,0):=D;split at T;cases T;rename_i c1;have U:(Q=3\/Q=4\/Q=5)/\(W=3\/W=4\/W=5)/\ofM 70 Q W=kY 70 Q W/\(kY 70 Q W=5/\Q=5/\W=5\/kY 70 Q W=3):=by rcases Cb c1 with ⟨rfl,rfl,h1⟩|⟨h1,⟨rfl,rfl⟩|⟨rfl,rfl⟩⟩|⟨h1,rfl,rfl⟩|⟨rfl|rfl,rfl|rfl⟩<;>first|decide|omega
 obtain⟨K,rfl,g1⟩:=fh (by have:=U.1;omega) f1.2.1;obtain⟨Y,rfl,g2⟩:=fh (by have:=U.2.1;omega) f2.2.1;have H:=iM U.1 g1;have A:=iM U.2.1 g2;unfold aW;by_cases O:tQ (K-Y)=true;rotate_left
 ·have E:jE K Y=(0,11):=by unfold jE;rw[if_pos ⟨gy.2 H.1,gy.2 A.1⟩];unfold kT;rw[if_neg O]
  have e:aq 70 [] ⟨a,b,c,d,aI Q K::aI W Y::q,I,g,u,m,B⟩=(11,⟨a,b,c,d,q,I,g,u,m,B⟩):=by unfold aq;rw[qL];show(if(jE K Y).2≠0 then(((jE K Y).2,⟨a,b,c,d,q,I,g,u,m,B⟩):MR)else if ofM 70 Q W=5 then(if(jE K Y).1<0 then aQ ⟨a,b,c,d,q,I,g,u,m,B⟩ [bN []]else aQ ⟨a,b,c,d,q,I,g,u,m,B⟩ [bN [aI 5 (jE K Y).1]])else aQ ⟨a,b,c,d,q,I,g,u,m,B⟩ [aI (ofM 70 Q W) (jE K Y).1])=_;rw[E];rfl
  rw[e];exact⟨dO _ _ 2 G 70 P _ [aI Q K,aI W Y] q _ cc (by rw[qL];rfl) gn (DY ⟨a,b,c,d,q,I,g,u,m,B⟩ Q K 0 [] [] [] [] W Y 0 [] [] [] [] 0 11 cc E cm),.inr (.inl Z)⟩
 have E:jE K Y=(K-Y,0):=by unfold jE;rw[if_pos ⟨gy.2 H.1,gy.2 A.1⟩];unfold kT;rw[if_pos O]
 rcases U.2.2.2 with ⟨k5,rfl,rfl⟩|p
 ·rw[if_pos ⟨Z,k5⟩]at T;cases T;have V:ofM 70 5 5=5:=by decide
  by_cases M:K-Y<0;have e:aq 70 [] ⟨a,b,c,d,aI 5 K::aI 5 Y::q,I,g,u,m,B⟩=aQ ⟨a,b,c,d,q,I,g,u,m,B⟩ [bN []]:=(by unfold aq;rw[qL];show(if(jE K Y).2≠0 then(((jE K Y).2,⟨a,b,c,d,q,I,g,u,m,B⟩):MR)else if ofM 70 5 5=5 then(if(jE K Y).1<0 then aQ ⟨a,b,c,d,q,I,g,u,m,B⟩ [bN []]else aQ ⟨a,b,c,d,q,I,g,u,m,B⟩ [bN [aI 5 (jE K Y).1]])else aQ ⟨a,b,c,d,q,I,g,u,m,B⟩ [aI (ofM 70 5 5) (jE K Y).1])=_;rw[E,if_neg (λh=>h Z),if_pos V,if_pos M]);rw[e];exact⟨dO _ _ 2 G 70 P _ [aI 5 K,aI 5 Y] q _ cc (by rw[qL];rfl) sx (DZ ⟨a,b,c,d,q,I,g,u,m,B⟩ 5 K 0 [] [] [] [] 5 Y 0 [] [] [] [] (K-Y) V M E cm),bP (S:=⟨a,b,c,d,q,I,g,u,m,B⟩) (dJ (bw N) mG) hq⟩;have e:aq 70 [] ⟨a,b,c,d,aI 5 K::aI 5 Y::q,I,g,u,m,B⟩=aQ ⟨a,b,c,d,q,I,g,u,m,B⟩ [bN [aI 5 (K-Y)]]:=by unfold aq;rw[qL];show(if(jE K Y).2≠0 then(((jE K Y).2,⟨a,b,c,d,q,I,g,u,m,B⟩):MR)else if ofM 70 5 5=5 then(if(jE K Y).1<0 then aQ ⟨a,b,c,d,q,I,g,u,m,B⟩ [bN []]else aQ ⟨a,b,c,d,q,I,g,u,m,B⟩ [bN [aI 5 (jE K Y).1]])else aQ ⟨a,b,c,d,q,I,g,u,m,B⟩ [aI (ofM 70 5 5) (jE K Y).1])=_;rw[E,if_neg (λh=>h Z),if_pos V,if_neg M]
  rw[e];exact⟨dO _ _ 2 G 70 P _ [aI 5 K,aI 5 Y] q _ cc (by rw[qL];rfl) sx (D0 ⟨a,b,c,d,q,I,g,u,m,B⟩ 5 K 0 [] [] [] [] 5 Y 0 [] [] [] [] (K-Y) V M E cm),bP (S:=⟨a,b,c,d,q,I,g,u,m,B⟩) (dJ (bw N) (iy (iH cc (gy.1 O) (λ_=>by omega)))) hq⟩
 rw[if_neg (λh=>by have:=h.2;omega)]at T;cases T;have V:ofM 70 Q W≠5:=by rw[U.2.2.1,p];decide
 have e:aq 70 [] ⟨a,b,c,d,aI Q K::aI W Y::q,I,g,u,m,B⟩=aQ ⟨a,b,c,d,q,I,g,u,m,B⟩ [aI (ofM 70 Q W) (K-Y)]:=by unfold aq;rw[qL];show(if(jE K Y).2≠0 then(((jE K Y).2,⟨a,b,c,d,q,I,g,u,m,B⟩):MR)else if ofM 70 Q W=5 then(if(jE K Y).1<0 then aQ ⟨a,b,c,d,q,I,g,u,m,B⟩ [bN []]else aQ ⟨a,b,c,d,q,I,g,u,m,B⟩ [bN [aI 5 (jE K Y).1]])else aQ ⟨a,b,c,d,q,I,g,u,m,B⟩ [aI (ofM 70 Q W) (jE K Y).1])=_;rw[E,if_neg (λh=>h Z),if_neg V]
 rw[e];exact⟨dO _ _ 2 G 70 P _ [aI Q K,aI W Y] q _ cc (by rw[qL];rfl) gn (D1 ⟨a,b,c,d,q,I,g,u,m,B⟩ Q K 0 [] [] [] [] W Y 0 [] [] [] [] (K-Y) V E cm),bP (S:=⟨a,b,c,d,q,I,g,u,m,B⟩) (dJ (bw N) (by rw[U.2.2.1,p];exact iH cc (gy.1 O) (λh=>absurd Z h))) hq⟩
def TP{a b:Int}(W : -bF<=a/\a<=bF)(A : -bF<=b/\b<=bF)(M:b≠0):(-bF<=a/b/\a/b<=bF)/\(-bF<=a%b/\a%b<=bF)/\0<=a%b/\(0<=a->0<=b->0<=a/b):=by have B:=Int.natAbs_ediv_le_natAbs a b;have U:=Int.emod_nonneg a M;have p:=Int.emod_lt a M;refine⟨by unfold bF at *;omega,by unfold bF at *;omega,U,λh1 h2=>Int.ediv_nonneg h1 h2⟩
def PV(S:bE)(G:Int)(V:L UInt8)(args:L Nd)(types s:L Ty)(r:L Ty×Bool)(hf:br 72 args=some types)(C:cD s S.st)(hl:s.length<=340)(U:r.1.all bg=true)(D:dV 72 s=(r,0)):aW G V 72 args S/\bG S r (aq 72 args S):=by
 obtain⟨a,b,c,d,st,I,g,u,m,B⟩:=S;obtain⟨rfl,rfl⟩:=ct hf cc;have eH:=bq C;simp only at C eH;rcases s with _|⟨t1,_|⟨t2,s⟩⟩
 cases D;cases D;obtain⟨v,q0,rfl,hv,H⟩:=aF C;obtain⟨w,q,rfl,hw,hq⟩:=aF H;have f1:=bO hv.1;have f2:=bO hw.1;obtain⟨Q,xz⟩:=t1;obtain⟨W,wO⟩:=t2;simp only[aaa]at eH hl;have A:(if kY 72 Q W=0 then aX 5 else eB (.mk 9 [.mk 11 [.mk (if Q=5/\W=5 then 4 else kY 72 Q W) [],.mk (if Q=5 then 5 else 4) []]]::s))=(r,0):=D;split at A;cases A;rename_i c1;cases A;have N:(Q=3\/Q=4\/Q=5)/\(W=3\/W=4\/W=5):=by rcases Cb c1 with ⟨rfl,rfl,h1⟩|⟨h1,⟨rfl,rfl⟩|⟨rfl,rfl⟩⟩|⟨h1,rfl,rfl⟩|⟨rfl|rfl,rfl|rfl⟩<;>first|decide|omega
 obtain⟨K,rfl,g1⟩:=fh (by have:=N.1;omega) f1.2.1;obtain⟨Y,rfl,g2⟩:=fh (by have:=N.2;omega) f2.2.1;have J:=iM N.1 g1;have M:=iM N.2 g2;unfold aW;by_cases p:Y=0
 ·have E:gk K Y=(0,0,6):=by unfold gk;rw[if_pos ⟨gy.2 J.1,gy.2 M.1⟩,if_pos p]
  have e:aq 72 [] ⟨a,b,c,d,aI Q K::aI W Y::q,I,g,u,m,B⟩=aQ ⟨a,b,c,d,q,I,g,u,m,B⟩ [bN []]:=by unfold aq;rw[jR];show(if(gk K Y).2.2≠0 then aQ ⟨a,b,c,d,q,I,g,u,m,B⟩ [bN []]else aQ ⟨a,b,c,d,q,I,g,u,m,B⟩ [bN [aY (aI (if ofM 72 Q W=5/\W=5 then 4 else ofM 72 Q W) (gk K Y).1) (aI (if ofM 72 Q W=5 then 5 else 4) (gk K Y).2.1)]])=_;rw[E];rfl
  rw[e];exact⟨dO _ _ 2 G 72 V _ [aI Q K,aI W Y] q _ cc Yz gn (lM ⟨a,b,c,d,q,I,g,u,m,B⟩ Q K 0 [] [] [] [] W Y 0 [] [] [] [] _ (Nu ⟨a,b,c,d,q,I,g,u,m,B⟩ (ofM 72 Q W) Q K 0 [] [] [] [] W Y 0 [] [] [] [] 0 0 6 cc E cm)),bP (S:=⟨a,b,c,d,q,I,g,u,m,B⟩) (dJ (bw U) mG) hq⟩
 have E:gk K Y=(K/Y,K%Y,0):=by unfold gk;rw[if_pos ⟨gy.2 J.1,gy.2 M.1⟩,if_neg p]
 obtain⟨T,P,O,oU⟩:=TP J.1 M.1 p;have p1:=J.2;have p2:=M.2;rcases Cb c1 with ⟨rfl,rfl,h1⟩|⟨h1,_⟩|⟨h1,rfl,rfl⟩|acw
 ·have e:aq 72 [] ⟨a,b,c,d,aI 5 K::aI 5 Y::q,I,g,u,m,B⟩=aQ ⟨a,b,c,d,q,I,g,u,m,B⟩ [bN [aY (aI 4 (K/Y)) (aI 5 (K%Y))]]:=by unfold aq;rw[jR];show(if(gk K Y).2.2≠0 then aQ ⟨a,b,c,d,q,I,g,u,m,B⟩ [bN []]else aQ ⟨a,b,c,d,q,I,g,u,m,B⟩ [bN [aY (aI (if ofM 72 5 5=5/\5=5 then 4 else ofM 72 5 5) (gk K Y).1) (aI (if ofM 72 5 5=5 then 5 else 4) (gk K Y).2.1)]])=_;rw[E,if_neg (λh=>h Z)];rfl
  rw[e];exact⟨dO _ _ 2 G 72 V _ [aI 5 K,aI 5 Y] q _ cc Yz sx (lM ⟨a,b,c,d,q,I,g,u,m,B⟩ 5 K 0 [] [] [] [] 5 Y 0 [] [] [] [] _ (Qc ⟨a,b,c,d,q,I,g,u,m,B⟩ (ofM 72 5 5) 5 K 0 [] [] [] [] 5 Y 0 [] [] [] [] (K/Y) (K%Y) cc Z E cm)),bP (S:=⟨a,b,c,d,q,I,g,u,m,B⟩) (dJ (bw U) (iy (kj (iH cc T (λ_=>oU (p1 cc) (p2 cc))) (iH cc P (λ_=>O))))) hq⟩
 omega
 ·have e:aq 72 [] ⟨a,b,c,d,aI 5 K::aI 4 Y::q,I,g,u,m,B⟩=aQ ⟨a,b,c,d,q,I,g,u,m,B⟩ [bN [aY (aI 5 (K/Y)) (aI 5 (K%Y))]]:=by unfold aq;rw[jR];show(if(gk K Y).2.2≠0 then aQ ⟨a,b,c,d,q,I,g,u,m,B⟩ [bN []]else aQ ⟨a,b,c,d,q,I,g,u,m,B⟩ [bN [aY (aI (if ofM 72 5 4=5/\4=5 then 4 else ofM 72 5 4) (gk K Y).1) (aI (if ofM 72 5 4=5 then 5 else 4) (gk K Y).2.1)]])=_;rw[E,if_neg (λh=>h Z)];rfl
  rw[e];exact⟨dO _ _ 2 G 72 V _ [aI 5 K,aI 4 Y] q _ cc Yz (by show List.length (aI 5 K::aI 4 Y::q)<=_;simp only[aaa];omega) (lM ⟨a,b,c,d,q,I,g,u,m,B⟩ 5 K 0 [] [] [] [] 4 Y 0 [] [] [] [] _ (TD ⟨a,b,c,d,q,I,g,u,m,B⟩ (ofM 72 5 4) 5 K 0 [] [] [] [] 4 Y 0 [] [] [] [] (K/Y) (K%Y) cc cc E cm)),bP (S:=⟨a,b,c,d,q,I,g,u,m,B⟩) (dJ (bw U) (iy (kj (iH cc T (λ_=>oU (p1 cc) (p2 cc))) (iH cc P (λ_=>O))))) hq⟩
 rcases acw with ⟨rfl|rfl,rfl|rfl⟩
 ·have e:aq 72 [] ⟨a,b,c,d,aI 3 K::aI 3 Y::q,I,g,u,m,B⟩=aQ ⟨a,b,c,d,q,I,g,u,m,B⟩ [bN [aY (aI 3 (K/Y)) (aI 4 (K%Y))]]:=by unfold aq;rw[jR];show(if(gk K Y).2.2≠0 then aQ ⟨a,b,c,d,q,I,g,u,m,B⟩ [bN []]else aQ ⟨a,b,c,d,q,I,g,u,m,B⟩ [bN [aY (aI (if ofM 72 3 3=5/\3=5 then 4 else ofM 72 3 3) (gk K Y).1) (aI (if ofM 72 3 3=5 then 5 else 4) (gk K Y).2.1)]])=_;rw[E,if_neg (λh=>h Z)];rfl
  rw[e];exact⟨dO _ _ 2 G 72 V _ [aI 3 K,aI 3 Y] q _ cc Yz (by show List.length (aI 3 K::aI 3 Y::q)<=_;simp only[aaa];omega) (lM ⟨a,b,c,d,q,I,g,u,m,B⟩ 3 K 0 [] [] [] [] 3 Y 0 [] [] [] [] _ (zi ⟨a,b,c,d,q,I,g,u,m,B⟩ (ofM 72 3 3) 3 K 0 [] [] [] [] 3 Y 0 [] [] [] [] (K/Y) (K%Y) cc E cm)),bP (S:=⟨a,b,c,d,q,I,g,u,m,B⟩) (dJ (bw U) (iy (kj (iH cc T (λh=>absurd Z h)) (iH cc P (λ_=>O))))) hq⟩
 ·have e:aq 72 [] ⟨a,b,c,d,aI 3 K::aI 4 Y::q,I,g,u,m,B⟩=aQ ⟨a,b,c,d,q,I,g,u,m,B⟩ [bN [aY (aI 3 (K/Y)) (aI 4 (K%Y))]]:=by unfold aq;rw[jR];show(if(gk K Y).2.2≠0 then aQ ⟨a,b,c,d,q,I,g,u,m,B⟩ [bN []]else aQ ⟨a,b,c,d,q,I,g,u,m,B⟩ [bN [aY (aI (if ofM 72 3 4=5/\4=5 then 4 else ofM 72 3 4) (gk K Y).1) (aI (if ofM 72 3 4=5 then 5 else 4) (gk K Y).2.1)]])=_;rw[E,if_neg (λh=>h Z)];rfl
  rw[e];exact⟨dO _ _ 2 G 72 V _ [aI 3 K,aI 4 Y] q _ cc Yz (by show List.length (aI 3 K::aI 4 Y::q)<=_;simp only[aaa];omega) (lM ⟨a,b,c,d,q,I,g,u,m,B⟩ 3 K 0 [] [] [] [] 4 Y 0 [] [] [] [] _ (zi ⟨a,b,c,d,q,I,g,u,m,B⟩ (ofM 72 3 4) 3 K 0 [] [] [] [] 4 Y 0 [] [] [] [] (K/Y) (K%Y) cc E cm)),bP (S:=⟨a,b,c,d,q,I,g,u,m,B⟩) (dJ (bw U) (iy (kj (iH cc T (λh=>absurd Z h)) (iH cc P (λ_=>O))))) hq⟩
 ·have e:aq 72 [] ⟨a,b,c,d,aI 4 K::aI 3 Y::q,I,g,u,m,B⟩=aQ ⟨a,b,c,d,q,I,g,u,m,B⟩ [bN [aY (aI 3 (K/Y)) (aI 4 (K%Y))]]:=by unfold aq;rw[jR];show(if(gk K Y).2.2≠0 then aQ ⟨a,b,c,d,q,I,g,u,m,B⟩ [bN []]else aQ ⟨a,b,c,d,q,I,g,u,m,B⟩ [bN [aY (aI (if ofM 72 4 3=5/\3=5 then 4 else ofM 72 4 3) (gk K Y).1) (aI (if ofM 72 4 3=5 then 5 else 4) (gk K Y).2.1)]])=_;rw[E,if_neg (λh=>h Z)];rfl
  rw[e];exact⟨dO _ _ 2 G 72 V _ [aI 4 K,aI 3 Y] q _ cc Yz (by show List.length (aI 4 K::aI 3 Y::q)<=_;simp only[aaa];omega) (lM ⟨a,b,c,d,q,I,g,u,m,B⟩ 4 K 0 [] [] [] [] 3 Y 0 [] [] [] [] _ (zi ⟨a,b,c,d,q,I,g,u,m,B⟩ (ofM 72 4 3) 4 K 0 [] [] [] [] 3 Y 0 [] [] [] [] (K/Y) (K%Y) cc E cm)),bP (S:=⟨a,b,c,d,q,I,g,u,m,B⟩) (dJ (bw U) (iy (kj (iH cc T (λh=>absurd Z h)) (iH cc P (λ_=>O))))) hq⟩
 have e:aq 72 [] ⟨a,b,c,d,aI 4 K::aI 4 Y::q,I,g,u,m,B⟩=aQ ⟨a,b,c,d,q,I,g,u,m,B⟩ [bN [aY (aI 4 (K/Y)) (aI 4 (K%Y))]]:=by unfold aq;rw[jR];show(if(gk K Y).2.2≠0 then aQ ⟨a,b,c,d,q,I,g,u,m,B⟩ [bN []]else aQ ⟨a,b,c,d,q,I,g,u,m,B⟩ [bN [aY (aI (if ofM 72 4 4=5/\4=5 then 4 else ofM 72 4 4) (gk K Y).1) (aI (if ofM 72 4 4=5 then 5 else 4) (gk K Y).2.1)]])=_;rw[E,if_neg (λh=>h Z)];rfl
 rw[e];exact⟨dO _ _ 2 G 72 V _ [aI 4 K,aI 4 Y] q _ cc Yz (by show List.length (aI 4 K::aI 4 Y::q)<=_;simp only[aaa];omega) (lM ⟨a,b,c,d,q,I,g,u,m,B⟩ 4 K 0 [] [] [] [] 4 Y 0 [] [] [] [] _ (zi ⟨a,b,c,d,q,I,g,u,m,B⟩ (ofM 72 4 4) 4 K 0 [] [] [] [] 4 Y 0 [] [] [] [] (K/Y) (K%Y) cc E cm)),bP (S:=⟨a,b,c,d,q,I,g,u,m,B⟩) (dJ (bw U) (iy (kj (iH cc T (λ_=>oU (p1 cc) (p2 cc))) (iH cc P (λ_=>O))))) hq⟩
end Go.Proofs
