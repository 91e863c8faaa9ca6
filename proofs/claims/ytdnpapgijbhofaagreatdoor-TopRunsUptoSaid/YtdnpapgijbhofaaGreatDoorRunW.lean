/- Package run: -/
import Derived.Test.YtdnpapgijbhofaaGreatDoorRunU
set_option linter.defProp false
set_option linter.unusedVariables false
set_option linter.unusedSimpArgs false
namespace Go.Proofs
open Go.cw
def Dw{P:Int}{M:L Nd}{V:L Ty}(h:bP P M=some V)(C:gH P=[116]):∃x,M=[x]/\(aJ x).2=0/\V=[(aJ x).1]:=by obtain⟨h1,h2⟩:=lu h;rw[C]at h1 h2;obtain⟨y,rfl⟩:=List.length_eq_one_iff.1 h1;obtain⟨Y,N,p,q,x⟩:=y;have K:(if(aJ (.mk Y N p q x)).2=0 then some ([]++[(aJ (.mk Y N p q x)).1])else none)=some V:=h2;split at K;simp_all;cases K
def fX{t:Ty}{v:Vl}(G:br t=true)(h:bE v t=true/\eU v=true):gN t v=true:=by unfold gN oA;rw[G,h.1,h.2];rfl
def cQ{t:Ty}{v:Vl}(h:gN t v=true):br t=true/\bE v t=true/\eU v=true:=by unfold gN oA at h;simp only[aaN]at h;exact⟨h.1.1,h.1.2,h.2⟩
def bC{t:Ty}{s:L Ty}(h:(t::s).all br=true):br t=true:=by simp_all
def OM{t:Ty}{s:L Ty}(h:(t::s).all br=true):s.all br=true:=by simp_all
def TY:bY 46=2:=by decide +kernel
def TZ:bY 47=1:=by decide +kernel
def T0:bY 48=1:=by decide +kernel
def T4:bY 49=1:=by decide +kernel
def T5:bY 50=1:=by decide +kernel
def T6:bY 51=1:=by decide +kernel
def T7:bY 53=1:=by decide +kernel
def T8:bY 54=0:=by decide +kernel
def T9:bY 56=0:=by decide +kernel
def RS(S:bZ)(A:Int)(K:L UInt8)(M:L Nd)(codes:L (L Ty->CR))(V s:L Ty)(r:L Ty×Bool)(hf:bP 46 M=some V)(C:ew s S.st)(I:s.length<=340)(G:r.1.all br=true)(Y:dU 46 codes V s=(r,0)):bg A K 46 M S/\bQ S r (aE 46 M S):=by
 obtain⟨a,b,c,d,st,H,g,u,m,Q⟩:=S;obtain⟨rfl,rfl⟩:=cK hf bn;have E:=bL C;simp only at C E;rcases s with _|⟨P,_|⟨O,s⟩⟩
 cases Y;cases Y;obtain⟨v,J,rfl,N,U⟩:=aW C;obtain⟨w,q,rfl,W,hq⟩:=aW U;cases Y;have D:=cQ N.1;have T:=cQ W.1;have e:aE 46 [] ⟨a,b,c,d,v::w::q,H,g,u,m,Q⟩=aY ⟨a,b,c,d,q,H,g,u,m,Q⟩ [bh v w]:=by unfold aE;rw[TY];rfl
 unfold bg;rw[e]
 try simp only[aag]at E I
 exact⟨jX _ _ 2 A 46 K _ [v,w] q _ bn (by rw[TY];rfl) (by show List.length (v::w::q)<=_;simp only[aag];omega) (Rj ⟨a,b,c,d,q,H,g,u,m,Q⟩ A K v w (by have:=N.2;have:=W.2;simp only[bh,aH,aI,bp,aO,aay];omega) bT),cg (S:=⟨a,b,c,d,q,H,g,u,m,Q⟩) (fX (bC G) (ld D.2 T.2)) hq⟩
def LW(S:bZ)(A:Int)(K:L UInt8)(M:L Nd)(codes:L (L Ty->CR))(V s:L Ty)(r:L Ty×Bool)(hf:bP 47 M=some V)(C:ew s S.st)(P:s.length<=340)(G:r.1.all br=true)(I:dU 47 codes V s=(r,0)):bg A K 47 M S/\bQ S r (aE 47 M S):=by
 obtain⟨a,b,c,d,st,H,g,u,m,Q⟩:=S;obtain⟨rfl,rfl⟩:=cK hf bn;have E:=bL C;simp only at C E;cases s with
 |nil=>cases I
 |cons t s =>
 obtain⟨v,q,rfl,N,hq⟩:=aW C;have D:=cQ N.1;have Y:(if dD t=11 then gy (aV t++s)else bw 5)=(r,0):=I;split at Y;rotate_left;cases Y;rename_i W;obtain⟨T,ts⟩:=t;simp only[dD]at W;subst W;obtain⟨B,t2,rfl,Tw,ZM⟩:=fE (cF D.1) bn;obtain⟨x,y,rfl,U,O⟩:=uG D.2.1 D.2.2;cases Y;have J:=N.2;simp only[bh,aH,aI,bp,aO,aay]at J;have e:aE 47 [] ⟨a,b,c,d,bh x y::q,H,g,u,m,Q⟩=aY ⟨a,b,c,d,q,H,g,u,m,Q⟩ [y,x]:=by unfold aE;rw[TZ];rfl
 unfold bg;rw[e]
 try simp only[aag]at E P
 exact⟨jX _ _ 2 A 47 K _ [bh x y] q _ bn (by rw[TZ];rfl) N1 (Rp ⟨a,b,c,d,q,H,g,u,m,Q⟩ A K 11 0 0 [] x y [] [] ai ai bT),LK (S:=⟨a,b,c,d,q,H,g,u,m,Q⟩) (fX (bC G) U) (fX (bC (OM G)) O) hq⟩
def Vq(S:bZ)(A:Int)(K:L UInt8)(M:L Nd)(codes:L (L Ty->CR))(V s:L Ty)(r:L Ty×Bool)(hf:bP 48 M=some V)(C:ew s S.st)(P:s.length<=340)(G:r.1.all br=true)(I:dU 48 codes V s=(r,0)):bg A K 48 M S/\bQ S r (aE 48 M S):=by
 obtain⟨a,b,c,d,st,H,g,u,m,Q⟩:=S;obtain⟨rfl,rfl⟩:=cK hf bn;have E:=bL C;simp only at C E;cases s with
 |nil=>cases I
 |cons t s =>
 obtain⟨v,q,rfl,N,hq⟩:=aW C;have D:=cQ N.1;have Y:(if dD t=11 then gy (aU t 0::s)else bw 5)=(r,0):=I;split at Y;rotate_left;cases Y;rename_i W;obtain⟨T,ts⟩:=t;simp only[dD]at W;subst W;obtain⟨J,B,rfl,Tw,ZM⟩:=fE (cF D.1) bn;obtain⟨x,y,rfl,U,hy⟩:=uG D.2.1 D.2.2;cases Y;have O:=N.2;simp only[bh,aH,aI,bp,aO,aay]at O;have e:aE 48 [] ⟨a,b,c,d,bh x y::q,H,g,u,m,Q⟩=aY ⟨a,b,c,d,q,H,g,u,m,Q⟩ [x]:=by unfold aE;rw[T0];rfl
 unfold bg;rw[e]
 try simp only[aag]at E P
 exact⟨jX _ _ 2 A 48 K _ [bh x y] q _ bn (by rw[T0];rfl) N1 (Rq ⟨a,b,c,d,q,H,g,u,m,Q⟩ A K 11 0 0 [] x y [] [] ai bT),cg (S:=⟨a,b,c,d,q,H,g,u,m,Q⟩) (fX (bC G) U) hq⟩
def Vr(S:bZ)(A:Int)(K:L UInt8)(M:L Nd)(codes:L (L Ty->CR))(V s:L Ty)(r:L Ty×Bool)(hf:bP 49 M=some V)(C:ew s S.st)(P:s.length<=340)(G:r.1.all br=true)(I:dU 49 codes V s=(r,0)):bg A K 49 M S/\bQ S r (aE 49 M S):=by
 obtain⟨a,b,c,d,st,H,g,u,m,Q⟩:=S;obtain⟨rfl,rfl⟩:=cK hf bn;have E:=bL C;simp only at C E;cases s with
 |nil=>cases I
 |cons t s =>
 obtain⟨v,q,rfl,N,hq⟩:=aW C;have D:=cQ N.1;have Y:(if dD t=11 then gy (aU t 1::s)else bw 5)=(r,0):=I;split at Y;rotate_left;cases Y;rename_i W;obtain⟨T,ts⟩:=t;simp only[dD]at W;subst W;obtain⟨J,B,rfl,Tw,ZM⟩:=fE (cF D.1) bn;obtain⟨x,y,rfl,hx,U⟩:=uG D.2.1 D.2.2;cases Y;have O:=N.2;simp only[bh,aH,aI,bp,aO,aay]at O;have e:aE 49 [] ⟨a,b,c,d,bh x y::q,H,g,u,m,Q⟩=aY ⟨a,b,c,d,q,H,g,u,m,Q⟩ [y]:=by unfold aE;rw[T4];rfl
 unfold bg;rw[e]
 try simp only[aag]at E P
 exact⟨jX _ _ 2 A 49 K _ [bh x y] q _ bn (by rw[T4];rfl) N1 (Rr ⟨a,b,c,d,q,H,g,u,m,Q⟩ A K 11 0 0 [] x y [] [] ai bT),cg (S:=⟨a,b,c,d,q,H,g,u,m,Q⟩) (fX (bC G) U) hq⟩
def RU(S:bZ)(A:Int)(K:L UInt8)(M:L Nd)(codes:L (L Ty->CR))(V s:L Ty)(r:L Ty×Bool)(hf:bP 53 M=some V)(C:ew s S.st)(I:s.length<=340)(G:r.1.all br=true)(Y:dU 53 codes V s=(r,0)):bg A K 53 M S/\bQ S r (aE 53 M S):=by
 obtain⟨a,b,c,d,st,H,g,u,m,Q⟩:=S;obtain⟨rfl,rfl⟩:=cK hf bn;have E:=bL C;simp only at C E;cases s with
 |nil=>cases Y
 |cons t s =>
 obtain⟨v,q,rfl,N,hq⟩:=aW C;cases Y;have D:=cQ N.1;have e:aE 53 [] ⟨a,b,c,d,v::q,H,g,u,m,Q⟩=aY ⟨a,b,c,d,q,H,g,u,m,Q⟩ [cD [v]]:=by unfold aE;rw[T7];rfl
 unfold bg;rw[e]
 try simp only[aag]at E I
 exact⟨jX _ _ 2 A 53 K _ [v] q _ bn (by rw[T7];rfl) OG (Rn ⟨a,b,c,d,q,H,g,u,m,Q⟩ A K v Rw bT),cg (S:=⟨a,b,c,d,q,H,g,u,m,Q⟩) (fX (bC G) (jK D.2)) hq⟩
def RT(S:bZ)(A:Int)(K:L UInt8)(M:L Nd)(codes:L (L Ty->CR))(V s:L Ty)(r:L Ty×Bool)(hf:bP 50 M=some V)(C:ew s S.st)(I:s.length<=340)(G:r.1.all br=true)(Y:dU 50 codes V s=(r,0)):bg A K 50 M S/\bQ S r (aE 50 M S):=by
 obtain⟨a,b,c,d,st,H,g,u,m,Q⟩:=S;obtain⟨x,rfl,W,rfl⟩:=Dw hf bn;have E:=bL C;simp only at C E;cases s with
 |nil=>cases Y
 |cons t s =>
 obtain⟨v,q,rfl,N,hq⟩:=aW C;cases Y;have D:=cQ N.1;have e:aE 50 [x] ⟨a,b,c,d,v::q,H,g,u,m,Q⟩=aY ⟨a,b,c,d,q,H,g,u,m,Q⟩ [.mk 12 (50-50) 0 [] [v] [] []]:=by unfold aE;rw[T5];rfl
 unfold bg;rw[e]
 try simp only[aag]at E I
 exact⟨jX _ _ 2 A 50 K _ [v] q _ bn (by rw[T5];rfl) OG (Rk ⟨a,b,c,d,q,H,g,u,m,Q⟩ A K x v Rw bT),cg (S:=⟨a,b,c,d,q,H,g,u,m,Q⟩) (fX (bC G) (abt D.2)) hq⟩
def Pa(S:bZ)(A:Int)(K:L UInt8)(M:L Nd)(codes:L (L Ty->CR))(V s:L Ty)(r:L Ty×Bool)(hf:bP 51 M=some V)(C:ew s S.st)(I:s.length<=340)(G:r.1.all br=true)(Y:dU 51 codes V s=(r,0)):bg A K 51 M S/\bQ S r (aE 51 M S):=by
 obtain⟨a,b,c,d,st,H,g,u,m,Q⟩:=S;obtain⟨x,rfl,W,rfl⟩:=Dw hf bn;have E:=bL C;simp only at C E;cases s with
 |nil=>cases Y
 |cons t s =>
 obtain⟨v,q,rfl,N,hq⟩:=aW C;cases Y;have D:=cQ N.1;have e:aE 51 [x] ⟨a,b,c,d,v::q,H,g,u,m,Q⟩=aY ⟨a,b,c,d,q,H,g,u,m,Q⟩ [.mk 12 (51-50) 0 [] [v] [] []]:=by unfold aE;rw[T6];rfl
 unfold bg;rw[e]
 try simp only[aag]at E I
 exact⟨jX _ _ 2 A 51 K _ [v] q _ bn (by rw[T6];rfl) OG (Rm ⟨a,b,c,d,q,H,g,u,m,Q⟩ A K x v Rw bT),cg (S:=⟨a,b,c,d,q,H,g,u,m,Q⟩) (fX (bC G) (abu D.2)) hq⟩
def RV(S:bZ)(A:Int)(K:L UInt8)(M:L Nd)(codes:L (L Ty->CR))(V s:L Ty)(r:L Ty×Bool)(hf:bP 54 M=some V)(C:ew s S.st)(I:s.length<=340)(G:r.1.all br=true)(Y:dU 54 codes V s=(r,0)):bg A K 54 M S/\bQ S r (aE 54 M S):=by
 obtain⟨a,b,c,d,st,H,g,u,m,Q⟩:=S;obtain⟨x,rfl,D,rfl⟩:=Dw hf bn;have E:=bL C;simp only at C E;cases Y;have e:aE 54 [x] ⟨a,b,c,d,st,H,g,u,m,Q⟩=aY ⟨a,b,c,d,st,H,g,u,m,Q⟩ [cD []]:=by unfold aE;rw[T8];rfl
 unfold bg;rw[e]
 try simp only[aag]at E I
 exact⟨jX _ _ 2 A 54 K _ [] st _ bn (by rw[T8];rfl) XJ (Ro ⟨a,b,c,d,st,H,g,u,m,Q⟩ A K x bn XJ),cg (S:=⟨a,b,c,d,st,H,g,u,m,Q⟩) (fX (bC G) oO) C⟩
def Vs(S:bZ)(A:Int)(K:L UInt8)(M:L Nd)(codes:L (L Ty->CR))(V s:L Ty)(r:L Ty×Bool)(hf:bP 56 M=some V)(C:ew s S.st)(I:s.length<=340)(G:r.1.all br=true)(Y:dU 56 codes V s=(r,0)):bg A K 56 M S/\bQ S r (aE 56 M S):=by
 obtain⟨a,b,c,d,st,H,g,u,m,Q⟩:=S;obtain⟨x,rfl,D,rfl⟩:=Dw hf bn;have E:=bL C;simp only at C E;cases Y;have e:aE 56 [x] ⟨a,b,c,d,st,H,g,u,m,Q⟩=aY ⟨a,b,c,d,st,H,g,u,m,Q⟩ [.mk 10 0 0 [] [] [] []]:=by unfold aE;rw[T9];rfl
 unfold bg;rw[e]
 try simp only[aag]at E I
 exact⟨jX _ _ 2 A 56 K _ [] st _ bn (by rw[T9];rfl) XJ (U5 ⟨a,b,c,d,st,H,g,u,m,Q⟩ A K x bn XJ),cg (S:=⟨a,b,c,d,st,H,g,u,m,Q⟩) (fX (bC G) (Hl bn Z Z)) C⟩
def Fq:bY 69=2:=by decide +kernel
def tK:bY 70=2:=by decide +kernel
def Fs:bY 71=2:=by decide +kernel
def lW:bY 72=2:=by decide +kernel
def Ua:bY 93=1:=by decide +kernel
def Ft:bY 94=1:=by decide +kernel
def Ub:bY 95=1:=by decide +kernel
def iN{n:Int}:xg n=true ↔ -bJ<=n/\n<=bJ:=by unfold xg bJ;simp;try omega
def kY{T n:Int}{ts:L Ty}(C:T=3\/T=4\/T=5)(h:bE (aK T n) (.mk T ts)=true):(-bJ<=n/\n<=bJ)/\(T≠3->0<=n):=by
 obtain⟨_,K,Y,M,_⟩:=RE h;rcases C with rfl|rfl|rfl
 omega;omega;omega
def jW{T n:Int}(Y:T=3\/T=4\/T=5)(h : -bJ<=n/\n<=bJ)(C:T≠3->0<=n):bE (aK T n) (.mk T [])=true/\eU (aK T n)=true:=by
 rcases Y with rfl|rfl|rfl
 exact oN (.inr (.inl ⟨Z,h⟩));exact oN (.inr (.inr (.inl ⟨Z,C bn,h.2⟩)));exact oN (.inr (.inr (.inr (.inl ⟨Z,C bn,h.2⟩))))
def Fu{P a b:Int}(h:¬pe P a b=0):(a=5/\b=5/\(P=69\/P=70\/P=72))\/(P=71/\(a=5/\b=4\/a=4/\b=5))\/(P=72/\a=5/\b=4)\/((a=3\/a=4)/\(b=3\/b=4)):=by unfold pe at h;by_cases u:a=5/\b=5/\(P=69\/P=70\/P=72);exact .inl u;rw[if_neg u]at h;by_cases K:P=71/\(a=5/\b=4\/a=4/\b=5);exact .inr (.inl K);rw[if_neg K]at h;by_cases T:P=72/\a=5/\b=4;exact .inr (.inr (.inl T));rw[if_neg T]at h;by_cases c4:(a=3\/a=4)/\(b=3\/b=4);exact .inr (.inr (.inr c4));rw[if_neg c4]at h;exact absurd rfl h
def Pw(P a b:Int)(q:P=69\/P=71)(h:¬pe P a b=0):ofM P a b=pe P a b/\(pe P a b=3\/pe P a b=4\/pe P a b=5)/\(a=3\/a=4\/a=5)/\(b=3\/b=4\/b=5)/\(pe P a b≠3->a≠3/\b≠3):=by rcases Fu h with ⟨rfl,rfl,h1⟩|⟨h1,⟨rfl,rfl⟩|⟨rfl,rfl⟩⟩|⟨h1,rfl,rfl⟩|⟨rfl|rfl,rfl|rfl⟩<;>rcases q with rfl|rfl<;>first|decide|omega
def Vf(S:bZ)(U:Int)(P:L UInt8)(V:L Nd)(G s:L Ty)(r:L Ty×Bool)(hf:bP 69 V=some G)(C:ew s S.st)(hl:s.length<=340)(hg:r.1.all br=true)(I:eZ 69 s=(r,0)):bg U P 69 V S/\bQ S r (aE 69 V S):=by
 obtain⟨a,b,c,d,st,H,g,u,m,Q⟩:=S;obtain⟨rfl,rfl⟩:=cK hf bn;have E:=bL C;simp only at C E;rcases s with _|⟨t1,_|⟨t2,s⟩⟩
 cases I;cases I;obtain⟨v,q0,rfl,hv,qO⟩:=aW C;obtain⟨w,q,rfl,hw,hq⟩:=aW qO;have f1:=cQ hv.1;have f2:=cQ hw.1;obtain⟨M,JO⟩:=t1;obtain⟨D,Fc⟩:=t2;have O:(if pe 69 M D=0 then bw 5 else gy (.mk (pe 69 M D) []::s))=(r,0):=I;split at O;cases O;rename_i c1;cases O;have A:=Pw 69 M D bn c1;obtain⟨W,rfl,g1⟩:=gw (by have:=A.2.2.1;omega) f1.2.1;obtain⟨Y,rfl,g2⟩:=gw (by have:=A.2.2.2.1;omega) f2.2.1;have N:=kY A.2.2.1 g1;have J:=kY A.2.2.2.1 g2;simp only[aag]at E hl;unfold bg;by_cases T:xg (W+Y)=true
 ·have K:wg W Y=(W+Y,0):=by unfold wg;rw[if_pos ⟨iN.2 N.1,iN.2 J.1⟩];unfold m7;rw[if_pos T]
  have e:aE 69 [] ⟨a,b,c,d,aK M W::aK D Y::q,H,g,u,m,Q⟩=aY ⟨a,b,c,d,q,H,g,u,m,Q⟩ [aK (ofM 69 M D) (W+Y)]:=by unfold aE;rw[Fq];show(if(wg W Y).2≠0 then(((wg W Y).2,⟨a,b,c,d,q,H,g,u,m,Q⟩):MR)else aY ⟨a,b,c,d,q,H,g,u,m,Q⟩ [aK (ofM 69 M D) (wg W Y).1])=_;rw[K];rfl
  rw[e]
  exact⟨eE _ _ 2 U 69 P _ [aK M W,aK D Y] q _ bn (by rw[Fq];rfl) fP (I1 ⟨a,b,c,d,q,H,g,u,m,Q⟩ M W 0 [] [] [] [] D Y 0 [] [] [] [] (W+Y) K bT),
   cg (S:=⟨a,b,c,d,q,H,g,u,m,Q⟩) (fX (bC hg) (by rw[A.1];exact jW A.2.1 (iN.1 T) (λB=>by have:=A.2.2.2.2 B;have:=N.2 this.1;have:=J.2 (A.2.2.2.2 B).2;omega))) hq⟩
 have K:wg W Y=(0,11):=by unfold wg;rw[if_pos ⟨iN.2 N.1,iN.2 J.1⟩];unfold m7;rw[if_neg T]
 have e:aE 69 [] ⟨a,b,c,d,aK M W::aK D Y::q,H,g,u,m,Q⟩=(11,⟨a,b,c,d,q,H,g,u,m,Q⟩):=by unfold aE;rw[Fq];show(if(wg W Y).2≠0 then(((wg W Y).2,⟨a,b,c,d,q,H,g,u,m,Q⟩):MR)else aY ⟨a,b,c,d,q,H,g,u,m,Q⟩ [aK (ofM 69 M D) (wg W Y).1])=_;rw[K];rfl
 rw[e];exact⟨eE _ _ 2 U 69 P _ [aK M W,aK D Y] q _ bn (by rw[Fq];rfl) fP (HA ⟨a,b,c,d,q,H,g,u,m,Q⟩ M W 0 [] [] [] [] D Y 0 [] [] [] [] 0 11 bn K bT),.inr (.inl Z)⟩
def Vh(S:bZ)(U:Int)(P:L UInt8)(V:L Nd)(G s:L Ty)(r:L Ty×Bool)(hf:bP 71 V=some G)(C:ew s S.st)(hl:s.length<=340)(hg:r.1.all br=true)(I:eZ 71 s=(r,0)):bg U P 71 V S/\bQ S r (aE 71 V S):=by
 obtain⟨a,b,c,d,st,H,g,u,m,Q⟩:=S;obtain⟨rfl,rfl⟩:=cK hf bn;have E:=bL C;simp only at C E;rcases s with _|⟨t1,_|⟨t2,s⟩⟩
 cases I;cases I;obtain⟨v,q0,rfl,hv,qO⟩:=aW C;obtain⟨w,q,rfl,hw,hq⟩:=aW qO;have f1:=cQ hv.1;have f2:=cQ hw.1;obtain⟨M,JO⟩:=t1;obtain⟨D,Fc⟩:=t2;have O:(if pe 71 M D=0 then bw 5 else gy (.mk (pe 71 M D) []::s))=(r,0):=I;split at O;cases O;rename_i c1;cases O;have A:=Pw 71 M D bn c1;obtain⟨W,rfl,g1⟩:=gw (by have:=A.2.2.1;omega) f1.2.1;obtain⟨Y,rfl,g2⟩:=gw (by have:=A.2.2.2.1;omega) f2.2.1;have N:=kY A.2.2.1 g1;have J:=kY A.2.2.2.1 g2;simp only[aag]at E hl;unfold bg;by_cases T:xg (W*Y)=true
 ·have K:ud W Y=(W*Y,0):=by unfold ud;rw[if_pos ⟨iN.2 N.1,iN.2 J.1⟩];unfold m7;rw[if_pos T]
  have e:aE 71 [] ⟨a,b,c,d,aK M W::aK D Y::q,H,g,u,m,Q⟩=aY ⟨a,b,c,d,q,H,g,u,m,Q⟩ [aK (ofM 71 M D) (W*Y)]:=by unfold aE;rw[Fs];show(if(ud W Y).2≠0 then(((ud W Y).2,⟨a,b,c,d,q,H,g,u,m,Q⟩):MR)else aY ⟨a,b,c,d,q,H,g,u,m,Q⟩ [aK (ofM 71 M D) (ud W Y).1])=_;rw[K];rfl
  rw[e]
  exact⟨eE _ _ 2 U 71 P _ [aK M W,aK D Y] q _ bn (by rw[Fs];rfl) fP (I2 ⟨a,b,c,d,q,H,g,u,m,Q⟩ M W 0 [] [] [] [] D Y 0 [] [] [] [] (W*Y) K bT),
   cg (S:=⟨a,b,c,d,q,H,g,u,m,Q⟩) (fX (bC hg) (by rw[A.1];exact jW A.2.1 (iN.1 T) (λB=>Int.mul_nonneg (N.2 (A.2.2.2.2 B).1) (J.2 (A.2.2.2.2 B).2)))) hq⟩
 have K:ud W Y=(0,11):=by unfold ud;rw[if_pos ⟨iN.2 N.1,iN.2 J.1⟩];unfold m7;rw[if_neg T]
 have e:aE 71 [] ⟨a,b,c,d,aK M W::aK D Y::q,H,g,u,m,Q⟩=(11,⟨a,b,c,d,q,H,g,u,m,Q⟩):=by unfold aE;rw[Fs];show(if(ud W Y).2≠0 then(((ud W Y).2,⟨a,b,c,d,q,H,g,u,m,Q⟩):MR)else aY ⟨a,b,c,d,q,H,g,u,m,Q⟩ [aK (ofM 71 M D) (ud W Y).1])=_;rw[K];rfl
 rw[e];exact⟨eE _ _ 2 U 71 P _ [aK M W,aK D Y] q _ bn (by rw[Fs];rfl) fP (HB ⟨a,b,c,d,q,H,g,u,m,Q⟩ M W 0 [] [] [] [] D Y 0 [] [] [] [] 0 11 bn K bT),.inr (.inl Z)⟩
def Vj(S:bZ)(Y:Int)(K:L UInt8)(M:L Nd)(V s:L Ty)(r:L Ty×Bool)(hf:bP 93 M=some V)(C:ew s S.st)(P:s.length<=340)(U:r.1.all br=true)(I:eZ 93 s=(r,0)):bg Y K 93 M S/\bQ S r (aE 93 M S):=by
 obtain⟨a,b,c,d,st,H,g,u,m,Q⟩:=S;obtain⟨rfl,rfl⟩:=cK hf bn;have E:=bL C;simp only at C E;cases s with
 |nil=>cases I
 |cons t s =>
 obtain⟨v,q,rfl,N,hq⟩:=aW C;have D:=cQ N.1;obtain⟨T,ts⟩:=t;simp only[aag]at E P;have A:(if T=3 then gy (.mk 4 []::s)else bw 5)=(r,0):=I;split at A;rotate_left;cases A;rename_i O;subst O;cases A;obtain⟨n,rfl,g1⟩:=gw bn D.2.1;have G:=kY bn g1;unfold bg;have W:pg n=(if n<0 then -n else n,0):=by unfold pg;rw[if_pos (iN.2 G.1)]
 have e:aE 93 [] ⟨a,b,c,d,aK 3 n::q,H,g,u,m,Q⟩=aY ⟨a,b,c,d,q,H,g,u,m,Q⟩ [aK 4 (pg n).1]:=by unfold aE;rw[Ua];rfl
 rw[e];exact⟨eE _ _ 2 Y 93 K _ [aK 3 n] q _ bn (by rw[Ua];rfl) lf (Sf ⟨a,b,c,d,q,H,g,u,m,Q⟩ 3 n 0 [] [] [] [] bT),cg (S:=⟨a,b,c,d,q,H,g,u,m,Q⟩) (fX (bC U) (jW bn (by rw[W];have:=G.1;show _<=(if n<0 then -n else n)/\(if n<0 then -n else n)<=_;split<;>constructor<;>(unfold bJ at *;omega)) (λ_=>by rw[W];show 0<=(if n<0 then -n else n);split<;>omega))) hq⟩
def Vk(S:bZ)(A:Int)(K:L UInt8)(M:L Nd)(V s:L Ty)(r:L Ty×Bool)(hf:bP 94 M=some V)(B:ew s S.st)(P:s.length<=340)(G:r.1.all br=true)(I:eZ 94 s=(r,0)):bg A K 94 M S/\bQ S r (aE 94 M S):=by
 obtain⟨a,b,c,d,st,H,g,u,m,Q⟩:=S;obtain⟨rfl,rfl⟩:=cK hf bn;have E:=bL B;simp only at B E;cases s with
 |nil=>cases I
 |cons t s =>
 obtain⟨v,q,rfl,N,hq⟩:=aW B;have D:=cQ N.1;obtain⟨T,ts⟩:=t;simp only[aag]at E P;have Y:(if T=3 then gy (.mk 9 [.mk 4 []]::s)else bw 5)=(r,0):=I;split at Y;rotate_left;cases Y;rename_i W;subst W;cases Y;obtain⟨n,rfl,g1⟩:=gw bn D.2.1;have U:=kY bn g1;unfold bg;by_cases C:n<0
 ·have e:aE 94 [] ⟨a,b,c,d,aK 3 n::q,H,g,u,m,Q⟩=aY ⟨a,b,c,d,q,H,g,u,m,Q⟩ [cD []]:=by unfold aE;rw[Ft];show(if n<0 then aY ⟨a,b,c,d,q,H,g,u,m,Q⟩ [cD []]else aY ⟨a,b,c,d,q,H,g,u,m,Q⟩ [cD [aK 4 n]])=_;rw[if_pos C]
  rw[e];exact⟨eE _ _ 2 A 94 K _ [aK 3 n] q _ bn (by rw[Ft];rfl) lf (Pn ⟨a,b,c,d,q,H,g,u,m,Q⟩ 3 n 0 [] [] [] [] C bT),cg (S:=⟨a,b,c,d,q,H,g,u,m,Q⟩) (fX (bC G) oO) hq⟩
 have e:aE 94 [] ⟨a,b,c,d,aK 3 n::q,H,g,u,m,Q⟩=aY ⟨a,b,c,d,q,H,g,u,m,Q⟩ [cD [aK 4 n]]:=by unfold aE;rw[Ft];show(if n<0 then aY ⟨a,b,c,d,q,H,g,u,m,Q⟩ [cD []]else aY ⟨a,b,c,d,q,H,g,u,m,Q⟩ [cD [aK 4 n]])=_;rw[if_neg C]
 rw[e];exact⟨eE _ _ 2 A 94 K _ [aK 3 n] q _ bn (by rw[Ft];rfl) lf (Po ⟨a,b,c,d,q,H,g,u,m,Q⟩ 3 n 0 [] [] [] [] C bT),cg (S:=⟨a,b,c,d,q,H,g,u,m,Q⟩) (fX (bC G) (jK (jW bn U.1 (λ_=>by omega)))) hq⟩
def Vm(S:bZ)(Y:Int)(K:L UInt8)(M:L Nd)(V s:L Ty)(r:L Ty×Bool)(hf:bP 95 M=some V)(C:ew s S.st)(P:s.length<=340)(G:r.1.all br=true)(I:eZ 95 s=(r,0)):bg Y K 95 M S/\bQ S r (aE 95 M S):=by
 obtain⟨a,b,c,d,st,H,g,u,m,Q⟩:=S;obtain⟨rfl,rfl⟩:=cK hf bn;have E:=bL C;simp only at C E;cases s with
 |nil=>cases I
 |cons t s =>
 obtain⟨v,q,rfl,N,hq⟩:=aW C;have D:=cQ N.1;obtain⟨T,ts⟩:=t;simp only[aag]at E P;have A:(if T=4 then gy (.mk 3 []::s)else bw 5)=(r,0):=I;split at A;rotate_left;cases A;rename_i W;subst W;cases A;obtain⟨n,rfl,g1⟩:=gw bn D.2.1;have U:=kY bn g1;unfold bg;have e:aE 95 [] ⟨a,b,c,d,aK 4 n::q,H,g,u,m,Q⟩=aY ⟨a,b,c,d,q,H,g,u,m,Q⟩ [aK 3 n]:=by unfold aE;rw[Ub];rfl
 rw[e];exact⟨eE _ _ 2 Y 95 K _ [aK 4 n] q _ bn (by rw[Ub];rfl) (by show List.length (aK 4 n::q)<=_;simp only[aag];omega) (Sg ⟨a,b,c,d,q,H,g,u,m,Q⟩ 4 n 0 [] [] [] [] bT),cg (S:=⟨a,b,c,d,q,H,g,u,m,Q⟩) (fX (bC G) (jW bn U.1 (λh=>absurd Z h))) hq⟩
def Vg(S:bZ)(O:Int)(N:L UInt8)(V:L Nd)(G s:L Ty)(r:L Ty×Bool)(hf:bP 70 V=some G)(B:ew s S.st)(hl:s.length<=340)(J:r.1.all br=true)(I:eZ 70 s=(r,0)):bg O N 70 V S/\bQ S r (aE 70 V S):=by
 obtain⟨a,b,c,d,st,H,g,u,m,Q⟩:=S;obtain⟨rfl,rfl⟩:=cK hf bn;have E:=bL B;simp only at B E;rcases s with _|⟨t1,_|⟨t2,s⟩⟩
 cases I;cases I;obtain⟨v,q0,rfl,hv,qO⟩:=aW B;obtain⟨w,q,rfl,hw,hq⟩:=aW qO;have f1:=cQ hv.1;have f2:=cQ hw.1;obtain⟨M,JO⟩:=t1;obtain⟨D,Fc⟩:=t2;simp only[aag]at E hl;have P:(if pe 70 M D=0 then bw 5 else if(70:Int)=70/\pe 70 M D=5 then gy (.mk 9 [.mk 5 []]::s)else gy (.mk (pe 70 M D) []::s))=(r,0):=I;split at P;cases P;rename_i c1;have A:(M=3\/M=4\/M=5)/\(D=3\/D=4\/D=5)/\ofM 70 M D=pe 70 M D/\(pe 70 M D=5/\M=5/\D=5\/pe 70 M D=3):=by rcases Fu c1 with ⟨rfl,rfl,h1⟩|⟨h1,⟨rfl,rfl⟩|⟨rfl,rfl⟩⟩|⟨h1,rfl,rfl⟩|⟨rfl|rfl,rfl|rfl⟩<;>first|decide|omega
 obtain⟨W,rfl,g1⟩:=gw (by have:=A.1;omega) f1.2.1;obtain⟨Y,rfl,g2⟩:=gw (by have:=A.2.1;omega) f2.2.1;have r1:=kY A.1 g1;have r2:=kY A.2.1 g2;unfold bg;by_cases T:xg (W-Y)=true;rotate_left
 ·have K:lH W Y=(0,11):=by unfold lH;rw[if_pos ⟨iN.2 r1.1,iN.2 r2.1⟩];unfold m7;rw[if_neg T]
  have e:aE 70 [] ⟨a,b,c,d,aK M W::aK D Y::q,H,g,u,m,Q⟩=(11,⟨a,b,c,d,q,H,g,u,m,Q⟩):=by unfold aE;rw[tK];show(if(lH W Y).2≠0 then(((lH W Y).2,⟨a,b,c,d,q,H,g,u,m,Q⟩):MR)else if ofM 70 M D=5 then(if(lH W Y).1<0 then aY ⟨a,b,c,d,q,H,g,u,m,Q⟩ [cD []]else aY ⟨a,b,c,d,q,H,g,u,m,Q⟩ [cD [aK 5 (lH W Y).1]])else aY ⟨a,b,c,d,q,H,g,u,m,Q⟩ [aK (ofM 70 M D) (lH W Y).1])=_;rw[K];rfl
  rw[e];exact⟨eE _ _ 2 O 70 N _ [aK M W,aK D Y] q _ bn (by rw[tK];rfl) fP (HC ⟨a,b,c,d,q,H,g,u,m,Q⟩ M W 0 [] [] [] [] D Y 0 [] [] [] [] 0 11 bn K bT),.inr (.inl Z)⟩
 have K:lH W Y=(W-Y,0):=by unfold lH;rw[if_pos ⟨iN.2 r1.1,iN.2 r2.1⟩];unfold m7;rw[if_pos T]
 rcases A.2.2.2 with ⟨k5,rfl,rfl⟩|k3
 ·rw[if_pos ⟨Z,k5⟩]at P;cases P;have U:ofM 70 5 5=5:=by decide
  by_cases C:W-Y<0;have e:aE 70 [] ⟨a,b,c,d,aK 5 W::aK 5 Y::q,H,g,u,m,Q⟩=aY ⟨a,b,c,d,q,H,g,u,m,Q⟩ [cD []]:=(by unfold aE;rw[tK];show(if(lH W Y).2≠0 then(((lH W Y).2,⟨a,b,c,d,q,H,g,u,m,Q⟩):MR)else if ofM 70 5 5=5 then(if(lH W Y).1<0 then aY ⟨a,b,c,d,q,H,g,u,m,Q⟩ [cD []]else aY ⟨a,b,c,d,q,H,g,u,m,Q⟩ [cD [aK 5 (lH W Y).1]])else aY ⟨a,b,c,d,q,H,g,u,m,Q⟩ [aK (ofM 70 5 5) (lH W Y).1])=_;rw[K,if_neg (λh=>h Z),if_pos U,if_pos C]);rw[e];exact⟨eE _ _ 2 O 70 N _ [aK 5 W,aK 5 Y] q _ bn (by rw[tK];rfl) zw (HD ⟨a,b,c,d,q,H,g,u,m,Q⟩ 5 W 0 [] [] [] [] 5 Y 0 [] [] [] [] (W-Y) U C K bT),cg (S:=⟨a,b,c,d,q,H,g,u,m,Q⟩) (fX (bC J) oO) hq⟩;have e:aE 70 [] ⟨a,b,c,d,aK 5 W::aK 5 Y::q,H,g,u,m,Q⟩=aY ⟨a,b,c,d,q,H,g,u,m,Q⟩ [cD [aK 5 (W-Y)]]:=by unfold aE;rw[tK];show(if(lH W Y).2≠0 then(((lH W Y).2,⟨a,b,c,d,q,H,g,u,m,Q⟩):MR)else if ofM 70 5 5=5 then(if(lH W Y).1<0 then aY ⟨a,b,c,d,q,H,g,u,m,Q⟩ [cD []]else aY ⟨a,b,c,d,q,H,g,u,m,Q⟩ [cD [aK 5 (lH W Y).1]])else aY ⟨a,b,c,d,q,H,g,u,m,Q⟩ [aK (ofM 70 5 5) (lH W Y).1])=_;rw[K,if_neg (λh=>h Z),if_pos U,if_neg C]
  rw[e];exact⟨eE _ _ 2 O 70 N _ [aK 5 W,aK 5 Y] q _ bn (by rw[tK];rfl) zw (HE ⟨a,b,c,d,q,H,g,u,m,Q⟩ 5 W 0 [] [] [] [] 5 Y 0 [] [] [] [] (W-Y) U C K bT),cg (S:=⟨a,b,c,d,q,H,g,u,m,Q⟩) (fX (bC J) (jK (jW bn (iN.1 T) (λ_=>by omega)))) hq⟩
 rw[if_neg (λh=>by have:=h.2;omega)]at P;cases P;have U:ofM 70 M D≠5:=by rw[A.2.2.1,k3];decide
 have e:aE 70 [] ⟨a,b,c,d,aK M W::aK D Y::q,H,g,u,m,Q⟩=aY ⟨a,b,c,d,q,H,g,u,m,Q⟩ [aK (ofM 70 M D) (W-Y)]:=by unfold aE;rw[tK];show(if(lH W Y).2≠0 then(((lH W Y).2,⟨a,b,c,d,q,H,g,u,m,Q⟩):MR)else if ofM 70 M D=5 then(if(lH W Y).1<0 then aY ⟨a,b,c,d,q,H,g,u,m,Q⟩ [cD []]else aY ⟨a,b,c,d,q,H,g,u,m,Q⟩ [cD [aK 5 (lH W Y).1]])else aY ⟨a,b,c,d,q,H,g,u,m,Q⟩ [aK (ofM 70 M D) (lH W Y).1])=_;rw[K,if_neg (λh=>h Z),if_neg U]
 rw[e];exact⟨eE _ _ 2 O 70 N _ [aK M W,aK D Y] q _ bn (by rw[tK];rfl) fP (HF ⟨a,b,c,d,q,H,g,u,m,Q⟩ M W 0 [] [] [] [] D Y 0 [] [] [] [] (W-Y) U K bT),cg (S:=⟨a,b,c,d,q,H,g,u,m,Q⟩) (fX (bC J) (by rw[A.2.2.1,k3];exact jW bn (iN.1 T) (λh=>absurd Z h))) hq⟩
def Y2{a b:Int}(T : -bJ<=a/\a<=bJ)(U : -bJ<=b/\b<=bJ)(C:b≠0):(-bJ<=a/b/\a/b<=bJ)/\(-bJ<=a%b/\a%b<=bJ)/\0<=a%b/\(0<=a->0<=b->0<=a/b):=by have N:=Int.natAbs_ediv_le_natAbs a b;have H:=Int.emod_nonneg a C;have B:=Int.emod_lt a C;refine⟨by unfold bJ at *;omega,by unfold bJ at *;omega,H,λh1 h2=>Int.ediv_nonneg h1 h2⟩
def Vi(S:bZ)(A:Int)(U:L UInt8)(V:L Nd)(G s:L Ty)(r:L Ty×Bool)(hf:bP 72 V=some G)(C:ew s S.st)(hl:s.length<=340)(T:r.1.all br=true)(B:eZ 72 s=(r,0)):bg A U 72 V S/\bQ S r (aE 72 V S):=by
 obtain⟨a,b,c,d,st,H,g,u,m,Q⟩:=S;obtain⟨rfl,rfl⟩:=cK hf bn;have fF:=bL C;simp only at C fF;rcases s with _|⟨t1,_|⟨t2,s⟩⟩
 cases B;cases B;obtain⟨v,q0,rfl,hv,aiX⟩:=aW C;obtain⟨w,q,rfl,hw,hq⟩:=aW aiX;have f1:=cQ hv.1;have f2:=cQ hw.1;obtain⟨M,JO⟩:=t1;obtain⟨D,Fc⟩:=t2;simp only[aag]at fF hl;have dg:(if pe 72 M D=0 then bw 5 else gy (.mk 9 [.mk 11 [.mk (if M=5/\D=5 then 4 else pe 72 M D) [],.mk (if M=5 then 5 else 4) []]]::s))=(r,0):=B;split at dg;cases dg;rename_i c1;cases dg;have J:(M=3\/M=4\/M=5)/\(D=3\/D=4\/D=5):=by rcases Fu c1 with ⟨rfl,rfl,h1⟩|⟨h1,⟨rfl,rfl⟩|⟨rfl,rfl⟩⟩|⟨h1,rfl,rfl⟩|⟨rfl|rfl,rfl|rfl⟩<;>first|decide|omega
 obtain⟨W,rfl,g1⟩:=gw (by have:=J.1;omega) f1.2.1;obtain⟨Y,rfl,g2⟩:=gw (by have:=J.2;omega) f2.2.1;have I:=kY J.1 g1;have E:=kY J.2 g2;unfold bg;by_cases hz:Y=0
 ·have K:iH W Y=(0,0,6):=by unfold iH;rw[if_pos ⟨iN.2 I.1,iN.2 E.1⟩,if_pos hz]
  have e:aE 72 [] ⟨a,b,c,d,aK M W::aK D Y::q,H,g,u,m,Q⟩=aY ⟨a,b,c,d,q,H,g,u,m,Q⟩ [cD []]:=by unfold aE;rw[lW];show(if(iH W Y).2.2≠0 then aY ⟨a,b,c,d,q,H,g,u,m,Q⟩ [cD []]else aY ⟨a,b,c,d,q,H,g,u,m,Q⟩ [cD [bh (aK (if ofM 72 M D=5/\D=5 then 4 else ofM 72 M D) (iH W Y).1) (aK (if ofM 72 M D=5 then 5 else 4) (iH W Y).2.1)]])=_;rw[K];rfl
  rw[e];exact⟨eE _ _ 2 A 72 U _ [aK M W,aK D Y] q _ bn ac5 fP (nI ⟨a,b,c,d,q,H,g,u,m,Q⟩ M W 0 [] [] [] [] D Y 0 [] [] [] [] _ (Se ⟨a,b,c,d,q,H,g,u,m,Q⟩ (ofM 72 M D) M W 0 [] [] [] [] D Y 0 [] [] [] [] 0 0 6 bn K bT)),cg (S:=⟨a,b,c,d,q,H,g,u,m,Q⟩) (fX (bC T) oO) hq⟩
 have K:iH W Y=(W/Y,W%Y,0):=by unfold iH;rw[if_pos ⟨iN.2 I.1,iN.2 E.1⟩,if_neg hz]
 obtain⟨P,O,N,qO⟩:=Y2 I.1 E.1 hz;have p1:=I.2;have p2:=E.2;rcases Fu c1 with ⟨rfl,rfl,h1⟩|⟨h1,_⟩|⟨h1,rfl,rfl⟩|aiY
 ·have e:aE 72 [] ⟨a,b,c,d,aK 5 W::aK 5 Y::q,H,g,u,m,Q⟩=aY ⟨a,b,c,d,q,H,g,u,m,Q⟩ [cD [bh (aK 4 (W/Y)) (aK 5 (W%Y))]]:=by unfold aE;rw[lW];show(if(iH W Y).2.2≠0 then aY ⟨a,b,c,d,q,H,g,u,m,Q⟩ [cD []]else aY ⟨a,b,c,d,q,H,g,u,m,Q⟩ [cD [bh (aK (if ofM 72 5 5=5/\5=5 then 4 else ofM 72 5 5) (iH W Y).1) (aK (if ofM 72 5 5=5 then 5 else 4) (iH W Y).2.1)]])=_;rw[K,if_neg (λh=>h Z)];rfl
  rw[e];exact⟨eE _ _ 2 A 72 U _ [aK 5 W,aK 5 Y] q _ bn ac5 zw (nI ⟨a,b,c,d,q,H,g,u,m,Q⟩ 5 W 0 [] [] [] [] 5 Y 0 [] [] [] [] _ (VA ⟨a,b,c,d,q,H,g,u,m,Q⟩ (ofM 72 5 5) 5 W 0 [] [] [] [] 5 Y 0 [] [] [] [] (W/Y) (W%Y) bn Z K bT)),cg (S:=⟨a,b,c,d,q,H,g,u,m,Q⟩) (fX (bC T) (jK (ld (jW bn P (λ_=>qO (p1 bn) (p2 bn))) (jW bn O (λ_=>N))))) hq⟩
 omega
 ·have e:aE 72 [] ⟨a,b,c,d,aK 5 W::aK 4 Y::q,H,g,u,m,Q⟩=aY ⟨a,b,c,d,q,H,g,u,m,Q⟩ [cD [bh (aK 5 (W/Y)) (aK 5 (W%Y))]]:=by unfold aE;rw[lW];show(if(iH W Y).2.2≠0 then aY ⟨a,b,c,d,q,H,g,u,m,Q⟩ [cD []]else aY ⟨a,b,c,d,q,H,g,u,m,Q⟩ [cD [bh (aK (if ofM 72 5 4=5/\4=5 then 4 else ofM 72 5 4) (iH W Y).1) (aK (if ofM 72 5 4=5 then 5 else 4) (iH W Y).2.1)]])=_;rw[K,if_neg (λh=>h Z)];rfl
  rw[e];exact⟨eE _ _ 2 A 72 U _ [aK 5 W,aK 4 Y] q _ bn ac5 (by show List.length (aK 5 W::aK 4 Y::q)<=_;simp only[aag];omega) (nI ⟨a,b,c,d,q,H,g,u,m,Q⟩ 5 W 0 [] [] [] [] 4 Y 0 [] [] [] [] _ (YS ⟨a,b,c,d,q,H,g,u,m,Q⟩ (ofM 72 5 4) 5 W 0 [] [] [] [] 4 Y 0 [] [] [] [] (W/Y) (W%Y) bn bn K bT)),cg (S:=⟨a,b,c,d,q,H,g,u,m,Q⟩) (fX (bC T) (jK (ld (jW bn P (λ_=>qO (p1 bn) (p2 bn))) (jW bn O (λ_=>N))))) hq⟩
 rcases aiY with ⟨rfl|rfl,rfl|rfl⟩
 ·have e:aE 72 [] ⟨a,b,c,d,aK 3 W::aK 3 Y::q,H,g,u,m,Q⟩=aY ⟨a,b,c,d,q,H,g,u,m,Q⟩ [cD [bh (aK 3 (W/Y)) (aK 4 (W%Y))]]:=by unfold aE;rw[lW];show(if(iH W Y).2.2≠0 then aY ⟨a,b,c,d,q,H,g,u,m,Q⟩ [cD []]else aY ⟨a,b,c,d,q,H,g,u,m,Q⟩ [cD [bh (aK (if ofM 72 3 3=5/\3=5 then 4 else ofM 72 3 3) (iH W Y).1) (aK (if ofM 72 3 3=5 then 5 else 4) (iH W Y).2.1)]])=_;rw[K,if_neg (λh=>h Z)];rfl
  rw[e];exact⟨eE _ _ 2 A 72 U _ [aK 3 W,aK 3 Y] q _ bn ac5 (by show List.length (aK 3 W::aK 3 Y::q)<=_;simp only[aag];omega) (nI ⟨a,b,c,d,q,H,g,u,m,Q⟩ 3 W 0 [] [] [] [] 3 Y 0 [] [] [] [] _ (Cl ⟨a,b,c,d,q,H,g,u,m,Q⟩ (ofM 72 3 3) 3 W 0 [] [] [] [] 3 Y 0 [] [] [] [] (W/Y) (W%Y) bn K bT)),cg (S:=⟨a,b,c,d,q,H,g,u,m,Q⟩) (fX (bC T) (jK (ld (jW bn P (λh=>absurd Z h)) (jW bn O (λ_=>N))))) hq⟩
 ·have e:aE 72 [] ⟨a,b,c,d,aK 3 W::aK 4 Y::q,H,g,u,m,Q⟩=aY ⟨a,b,c,d,q,H,g,u,m,Q⟩ [cD [bh (aK 3 (W/Y)) (aK 4 (W%Y))]]:=by unfold aE;rw[lW];show(if(iH W Y).2.2≠0 then aY ⟨a,b,c,d,q,H,g,u,m,Q⟩ [cD []]else aY ⟨a,b,c,d,q,H,g,u,m,Q⟩ [cD [bh (aK (if ofM 72 3 4=5/\4=5 then 4 else ofM 72 3 4) (iH W Y).1) (aK (if ofM 72 3 4=5 then 5 else 4) (iH W Y).2.1)]])=_;rw[K,if_neg (λh=>h Z)];rfl
  rw[e];exact⟨eE _ _ 2 A 72 U _ [aK 3 W,aK 4 Y] q _ bn ac5 (by show List.length (aK 3 W::aK 4 Y::q)<=_;simp only[aag];omega) (nI ⟨a,b,c,d,q,H,g,u,m,Q⟩ 3 W 0 [] [] [] [] 4 Y 0 [] [] [] [] _ (Cl ⟨a,b,c,d,q,H,g,u,m,Q⟩ (ofM 72 3 4) 3 W 0 [] [] [] [] 4 Y 0 [] [] [] [] (W/Y) (W%Y) bn K bT)),cg (S:=⟨a,b,c,d,q,H,g,u,m,Q⟩) (fX (bC T) (jK (ld (jW bn P (λh=>absurd Z h)) (jW bn O (λ_=>N))))) hq⟩
 ·have e:aE 72 [] ⟨a,b,c,d,aK 4 W::aK 3 Y::q,H,g,u,m,Q⟩=aY ⟨a,b,c,d,q,H,g,u,m,Q⟩ [cD [bh (aK 3 (W/Y)) (aK 4 (W%Y))]]:=by unfold aE;rw[lW];show(if(iH W Y).2.2≠0 then aY ⟨a,b,c,d,q,H,g,u,m,Q⟩ [cD []]else aY ⟨a,b,c,d,q,H,g,u,m,Q⟩ [cD [bh (aK (if ofM 72 4 3=5/\3=5 then 4 else ofM 72 4 3) (iH W Y).1) (aK (if ofM 72 4 3=5 then 5 else 4) (iH W Y).2.1)]])=_;rw[K,if_neg (λh=>h Z)];rfl
  rw[e];exact⟨eE _ _ 2 A 72 U _ [aK 4 W,aK 3 Y] q _ bn ac5 (by show List.length (aK 4 W::aK 3 Y::q)<=_;simp only[aag];omega) (nI ⟨a,b,c,d,q,H,g,u,m,Q⟩ 4 W 0 [] [] [] [] 3 Y 0 [] [] [] [] _ (Cl ⟨a,b,c,d,q,H,g,u,m,Q⟩ (ofM 72 4 3) 4 W 0 [] [] [] [] 3 Y 0 [] [] [] [] (W/Y) (W%Y) bn K bT)),cg (S:=⟨a,b,c,d,q,H,g,u,m,Q⟩) (fX (bC T) (jK (ld (jW bn P (λh=>absurd Z h)) (jW bn O (λ_=>N))))) hq⟩
 have e:aE 72 [] ⟨a,b,c,d,aK 4 W::aK 4 Y::q,H,g,u,m,Q⟩=aY ⟨a,b,c,d,q,H,g,u,m,Q⟩ [cD [bh (aK 4 (W/Y)) (aK 4 (W%Y))]]:=by unfold aE;rw[lW];show(if(iH W Y).2.2≠0 then aY ⟨a,b,c,d,q,H,g,u,m,Q⟩ [cD []]else aY ⟨a,b,c,d,q,H,g,u,m,Q⟩ [cD [bh (aK (if ofM 72 4 4=5/\4=5 then 4 else ofM 72 4 4) (iH W Y).1) (aK (if ofM 72 4 4=5 then 5 else 4) (iH W Y).2.1)]])=_;rw[K,if_neg (λh=>h Z)];rfl
 rw[e];exact⟨eE _ _ 2 A 72 U _ [aK 4 W,aK 4 Y] q _ bn ac5 (by show List.length (aK 4 W::aK 4 Y::q)<=_;simp only[aag];omega) (nI ⟨a,b,c,d,q,H,g,u,m,Q⟩ 4 W 0 [] [] [] [] 4 Y 0 [] [] [] [] _ (Cl ⟨a,b,c,d,q,H,g,u,m,Q⟩ (ofM 72 4 4) 4 W 0 [] [] [] [] 4 Y 0 [] [] [] [] (W/Y) (W%Y) bn K bT)),cg (S:=⟨a,b,c,d,q,H,g,u,m,Q⟩) (fX (bC T) (jK (ld (jW bn P (λ_=>qO (p1 bn) (p2 bn))) (jW bn O (λ_=>N))))) hq⟩
end Go.Proofs
