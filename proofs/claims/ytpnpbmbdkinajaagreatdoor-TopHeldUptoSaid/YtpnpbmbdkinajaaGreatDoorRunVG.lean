/- A part of the proof. -/
import Derived.Test.YtpnpbmbdkinajaaGreatDoorRunEG
import Derived.Test.YtpnpbmbdkinajaaGreatDoorRunUG
import Derived.Test.YtpnpbmbdkinajaaGreatDoorScriptG
set_option linter.all false
set_option maxHeartbeats 0
set_option maxRecDepth 100000
namespace Go.Proofs
open Go.cE
def B7{P U V}(h:bB P U=some V)(Y:iq P=[116]):∃x,U=[x]/\(aM x).2=0/\V=[(aM x).1]:=by obtain⟨S,Q⟩:=l8 h;rw[Y]at S Q;obtain⟨y,rfl⟩:=List.length_eq_one_iff.1 S;obtain⟨T,N,p,q,x⟩:=y;have B:(if(aM (.mk T N p q x)).2=0 then some ([]++[(aM (.mk T N p q x)).1])else none)=some V:=Q;split at B;simp_all;cases B
def eX{t v}(N:bA t)(h:bJ v t/\fE v):fK t v:=by unfold fK oJ;rw[N,h.1,h.2];rfl
def bW{t v}(h:fK t v):bA t/\bJ v t/\fE v:=by unfold fK oJ at h;simp only[aaI]at h;exact⟨h.1.1,h.1.2,h.2⟩
def bK{t}{s:Γ}(h:(t::s).all bA):bA t:=by simp_all
def Q4{t}{s:Γ}(h:(t::s).all bA):s.all bA:=by simp_all
def OB:bP 46=2:=by decide +kernel
def OC:bP 47=1:=by decide +kernel
def OD:bP 48=1:=by decide +kernel
def OE:bP 49=1:=by decide +kernel
def OF:bP 50=1:=by decide +kernel
def OG:bP 51=1:=by decide +kernel
def OH:bP 53=1:=by decide +kernel
def OI:bP 54=0:=by decide +kernel
def OJ:bP 56=0:=by decide +kernel
def Un(S T p P)(M:L (Γ->CR))(O s)(r:Γ×Bool)(hf:bB 46 P=some O)(Y:dj s S.st)(E:s.length<=340)(N:r.1.all bA)(D:dh 46 M O s=(r,0)):bt T p 46 P S/\bV S r (aA 46 P S):=by
 obtain⟨a,b,c,d,st,C,g,u,m,K⟩:=S;obtain⟨rfl,rfl⟩:=cQ hf bn;have W:=bH Y;simp only at Y W;rcases s with _|⟨t1,_|⟨I,s⟩⟩
 cases D;cases D;obtain⟨v,A,rfl,J,U⟩:=aK Y;obtain⟨w,q,rfl,V,F⟩:=aK U;cases D;have Q:=bW J.1;have G:=bW V.1;have e:aA 46 [] ⟨a,b,c,d,v::w::q,C,g,u,m,K⟩=bg ⟨a,b,c,d,q,C,g,u,m,K⟩ [aU v w]:=by unfold aA;rw[OB];rfl
 unfold bt;rw[e]
 try simp only[aat]at W E
 exact⟨kM _ _ 2 T 46 p _ [v,w] q _ bn (by rw[OB];rfl) (by show List.length (v::w::q)<=_;simp only[aat];omega) (TS ⟨a,b,c,d,q,C,g,u,m,K⟩ T p v w (by have:=J.2;have:=V.2;simp only[aU,aG,aH,bf,aP,aav];omega) bT),cu (S:=⟨a,b,c,d,q,C,g,u,m,K⟩) (eX (bK N) (kX Q.2 G.2)) F⟩
def N1(S A p F)(z:L (Γ->CR))(B s)(r:Γ×Bool)(hf:bB 47 F=some B)(Y:dj s S.st)(E:s.length<=340)(N:r.1.all bA)(D:dh 47 z B s=(r,0)):bt A p 47 F S/\bV S r (aA 47 F S):=by
 obtain⟨a,b,c,d,st,C,g,u,m,K⟩:=S;obtain⟨rfl,rfl⟩:=cQ hf bn;have W:=bH Y;simp only at Y W;cases s with
 |nil=>cases D
 |cons t s =>
 obtain⟨v,q,rfl,J,o⟩:=aK Y;have V:=bW J.1;have O:(if cL t=11 then fO (aQ t++s)else br 5)=(r,0):=D;split at O;rotate_left;cases O;rename_i G;obtain⟨T,j⟩:=t;simp only[cL]at G;subst G;obtain⟨t1,I,rfl,M,H⟩:=dr (bw V.1) bn;obtain⟨x,y,rfl,U,Q⟩:=mL V.2.1 V.2.2;cases O;have P:=J.2;simp only[aU,aG,aH,bf,aP,aav]at P;have e:aA 47 [] ⟨a,b,c,d,aU x y::q,C,g,u,m,K⟩=bg ⟨a,b,c,d,q,C,g,u,m,K⟩ [y,x]:=by unfold aA;rw[OC];rfl
 unfold bt;rw[e]
 try simp only[aat]at W E
 exact⟨kM _ _ 2 A 47 p _ [aU x y] q _ bn (by rw[OC];rfl) DE (TX ⟨a,b,c,d,q,C,g,u,m,K⟩ A p 11 0 0 [] x y [] [] ai ai bT),NK (S:=⟨a,b,c,d,q,C,g,u,m,K⟩) (eX (bK N) U) (eX (bK (Q4 N)) Q) o⟩
def XE(S A p F)(z:L (Γ->CR))(B s)(r:Γ×Bool)(hf:bB 48 F=some B)(Y:dj s S.st)(E:s.length<=340)(N:r.1.all bA)(D:dh 48 z B s=(r,0)):bt A p 48 F S/\bV S r (aA 48 F S):=by
 obtain⟨a,b,c,d,st,C,g,u,m,K⟩:=S;obtain⟨rfl,rfl⟩:=cQ hf bn;have W:=bH Y;simp only at Y W;cases s with
 |nil=>cases D
 |cons t s =>
 obtain⟨v,q,rfl,J,o⟩:=aK Y;have V:=bW J.1;have O:(if cL t=11 then fO (aL t 0::s)else br 5)=(r,0):=D;split at O;rotate_left;cases O;rename_i G;obtain⟨T,j⟩:=t;simp only[cL]at G;subst G;obtain⟨t1,I,rfl,Q,M⟩:=dr (bw V.1) bn;obtain⟨x,y,rfl,U,H⟩:=mL V.2.1 V.2.2;cases O;have P:=J.2;simp only[aU,aG,aH,bf,aP,aav]at P;have e:aA 48 [] ⟨a,b,c,d,aU x y::q,C,g,u,m,K⟩=bg ⟨a,b,c,d,q,C,g,u,m,K⟩ [x]:=by unfold aA;rw[OD];rfl
 unfold bt;rw[e]
 try simp only[aat]at W E
 exact⟨kM _ _ 2 A 48 p _ [aU x y] q _ bn (by rw[OD];rfl) DE (TY ⟨a,b,c,d,q,C,g,u,m,K⟩ A p 11 0 0 [] x y [] [] ai bT),cu (S:=⟨a,b,c,d,q,C,g,u,m,K⟩) (eX (bK N) U) o⟩
def XF(S A p F)(z:L (Γ->CR))(B s)(r:Γ×Bool)(hf:bB 49 F=some B)(Y:dj s S.st)(E:s.length<=340)(N:r.1.all bA)(D:dh 49 z B s=(r,0)):bt A p 49 F S/\bV S r (aA 49 F S):=by
 obtain⟨a,b,c,d,st,C,g,u,m,K⟩:=S;obtain⟨rfl,rfl⟩:=cQ hf bn;have W:=bH Y;simp only at Y W;cases s with
 |nil=>cases D
 |cons t s =>
 obtain⟨v,q,rfl,J,o⟩:=aK Y;have V:=bW J.1;have O:(if cL t=11 then fO (aL t 1::s)else br 5)=(r,0):=D;split at O;rotate_left;cases O;rename_i G;obtain⟨T,j⟩:=t;simp only[cL]at G;subst G;obtain⟨t1,I,rfl,Q,M⟩:=dr (bw V.1) bn;obtain⟨x,y,rfl,H,U⟩:=mL V.2.1 V.2.2;cases O;have P:=J.2;simp only[aU,aG,aH,bf,aP,aav]at P;have e:aA 49 [] ⟨a,b,c,d,aU x y::q,C,g,u,m,K⟩=bg ⟨a,b,c,d,q,C,g,u,m,K⟩ [y]:=by unfold aA;rw[OE];rfl
 unfold bt;rw[e]
 try simp only[aat]at W E
 exact⟨kM _ _ 2 A 49 p _ [aU x y] q _ bn (by rw[OE];rfl) DE (TZ ⟨a,b,c,d,q,C,g,u,m,K⟩ A p 11 0 0 [] x y [] [] ai bT),cu (S:=⟨a,b,c,d,q,C,g,u,m,K⟩) (eX (bK N) U) o⟩
def Up(S T p U)(P:L (Γ->CR))(Q s)(r:Γ×Bool)(hf:bB 53 U=some Q)(Y:dj s S.st)(E:s.length<=340)(N:r.1.all bA)(D:dh 53 P Q s=(r,0)):bt T p 53 U S/\bV S r (aA 53 U S):=by
 obtain⟨a,b,c,d,st,C,g,u,m,K⟩:=S;obtain⟨rfl,rfl⟩:=cQ hf bn;have W:=bH Y;simp only at Y W;cases s with
 |nil=>cases D
 |cons t s =>
 obtain⟨v,q,rfl,J,O⟩:=aK Y;cases D;have V:=bW J.1;have e:aA 53 [] ⟨a,b,c,d,v::q,C,g,u,m,K⟩=bg ⟨a,b,c,d,q,C,g,u,m,K⟩ [cr [v]]:=by unfold aA;rw[OH];rfl
 unfold bt;rw[e]
 try simp only[aat]at W E
 exact⟨kM _ _ 2 T 53 p _ [v] q _ bn (by rw[OH];rfl) JJ (TV ⟨a,b,c,d,q,C,g,u,m,K⟩ T p v Ql bT),cu (S:=⟨a,b,c,d,q,C,g,u,m,K⟩) (eX (bK N) (kz V.2)) O⟩
def Uo(S T p U)(P:L (Γ->CR))(Q s)(r:Γ×Bool)(hf:bB 50 U=some Q)(Y:dj s S.st)(E:s.length<=340)(N:r.1.all bA)(D:dh 50 P Q s=(r,0)):bt T p 50 U S/\bV S r (aA 50 U S):=by
 obtain⟨a,b,c,d,st,C,g,u,m,K⟩:=S;obtain⟨x,rfl,O,rfl⟩:=B7 hf bn;have W:=bH Y;simp only at Y W;cases s with
 |nil=>cases D
 |cons t s =>
 obtain⟨v,q,rfl,J,M⟩:=aK Y;cases D;have V:=bW J.1;have e:aA 50 [x] ⟨a,b,c,d,v::q,C,g,u,m,K⟩=bg ⟨a,b,c,d,q,C,g,u,m,K⟩ [.mk 12 (50-50) 0 [] [v] [] []]:=by unfold aA;rw[OF];rfl
 unfold bt;rw[e]
 try simp only[aat]at W E
 exact⟨kM _ _ 2 T 50 p _ [v] q _ bn (by rw[OF];rfl) JJ (TT ⟨a,b,c,d,q,C,g,u,m,K⟩ T p x v Ql bT),cu (S:=⟨a,b,c,d,q,C,g,u,m,K⟩) (eX (bK N) (adK V.2)) M⟩
def Rt(S T p U)(P:L (Γ->CR))(Q s)(r:Γ×Bool)(hf:bB 51 U=some Q)(Y:dj s S.st)(E:s.length<=340)(N:r.1.all bA)(D:dh 51 P Q s=(r,0)):bt T p 51 U S/\bV S r (aA 51 U S):=by
 obtain⟨a,b,c,d,st,C,g,u,m,K⟩:=S;obtain⟨x,rfl,O,rfl⟩:=B7 hf bn;have W:=bH Y;simp only at Y W;cases s with
 |nil=>cases D
 |cons t s =>
 obtain⟨v,q,rfl,J,M⟩:=aK Y;cases D;have V:=bW J.1;have e:aA 51 [x] ⟨a,b,c,d,v::q,C,g,u,m,K⟩=bg ⟨a,b,c,d,q,C,g,u,m,K⟩ [.mk 12 (51-50) 0 [] [v] [] []]:=by unfold aA;rw[OG];rfl
 unfold bt;rw[e]
 try simp only[aat]at W E
 exact⟨kM _ _ 2 T 51 p _ [v] q _ bn (by rw[OG];rfl) JJ (TU ⟨a,b,c,d,q,C,g,u,m,K⟩ T p x v Ql bT),cu (S:=⟨a,b,c,d,q,C,g,u,m,K⟩) (eX (bK N) (adL V.2)) M⟩
def Uq(S T p V)(Q:L (Γ->CR))(U s)(r:Γ×Bool)(hf:bB 54 V=some U)(Y:dj s S.st)(E:s.length<=340)(N:r.1.all bA)(W:dh 54 Q U s=(r,0)):bt T p 54 V S/\bV S r (aA 54 V S):=by
 obtain⟨a,b,c,d,st,C,g,u,m,K⟩:=S;obtain⟨x,rfl,O,rfl⟩:=B7 hf bn;have D:=bH Y;simp only at Y D;cases W;have e:aA 54 [x] ⟨a,b,c,d,st,C,g,u,m,K⟩=bg ⟨a,b,c,d,st,C,g,u,m,K⟩ [cr []]:=by unfold aA;rw[OI];rfl
 unfold bt;rw[e]
 try simp only[aat]at D E
 exact⟨kM _ _ 2 T 54 p _ [] st _ bn (by rw[OI];rfl) aaa (TW ⟨a,b,c,d,st,C,g,u,m,K⟩ T p x bn aaa),cu (S:=⟨a,b,c,d,st,C,g,u,m,K⟩) (eX (bK N) pH) Y⟩
def XG(S T p V)(Q:L (Γ->CR))(U s)(r:Γ×Bool)(hf:bB 56 V=some U)(Y:dj s S.st)(E:s.length<=340)(N:r.1.all bA)(W:dh 56 Q U s=(r,0)):bt T p 56 V S/\bV S r (aA 56 V S):=by
 obtain⟨a,b,c,d,st,C,g,u,m,K⟩:=S;obtain⟨x,rfl,O,rfl⟩:=B7 hf bn;have D:=bH Y;simp only at Y D;cases W;have e:aA 56 [x] ⟨a,b,c,d,st,C,g,u,m,K⟩=bg ⟨a,b,c,d,st,C,g,u,m,K⟩ [.mk 10 0 0 [] [] [] []]:=by unfold aA;rw[OJ];rfl
 unfold bt;rw[e]
 try simp only[aat]at D E
 exact⟨kM _ _ 2 T 56 p _ [] st _ bn (by rw[OJ];rfl) aaa (Xs ⟨a,b,c,d,st,C,g,u,m,K⟩ T p x bn aaa),cu (S:=⟨a,b,c,d,st,C,g,u,m,K⟩) (eX (bK N) (Dq bn Z Z)) Y⟩
def GZ:bP 69=2:=by decide +kernel
def vk:bP 70=2:=by decide +kernel
def G0:bP 71=2:=by decide +kernel
def mE:bP 72=2:=by decide +kernel
def Wi:bP 93=1:=by decide +kernel
def G1:bP 94=1:=by decide +kernel
def Wj:bP 95=1:=by decide +kernel
def jk{n}:yE n ↔ -bL<=n/\n<=bL:=by unfold yE bL;simp;try omega
def kQ{T n}{U:Γ}(Y:T=3\/T=4\/T=5)(h:bJ (aO T n) (.mk T U)):(-bL<=n/\n<=bL)/\(T≠3->0<=n):=by
 obtain⟨_,B,W,V,_⟩:=Ua h;rcases Y with rfl|rfl|rfl
 omega;omega;omega
def kL{T n}(Y:T=3\/T=4\/T=5)(h : -bL<=n/\n<=bL)(C:T≠3->0<=n):bJ (aO T n) (.mk T [])/\fE (aO T n):=by
 rcases Y with rfl|rfl|rfl
 exact pG (.inr (.inl ⟨Z,h⟩));exact pG (.inr (.inr (.inl ⟨Z,C bn,h.2⟩)));exact pG (.inr (.inr (.inr (.inl ⟨Z,C bn,h.2⟩))))
def G2{P a b}(h:¬nU P a b=0):(a=5/\b=5/\(P=69\/P=70\/P=72))\/(P=71/\(a=5/\b=4\/a=4/\b=5))\/(P=72/\a=5/\b=4)\/((a=3\/a=4)/\(b=3\/b=4)):=by unfold nU at h;by_cases G:a=5/\b=5/\(P=69\/P=70\/P=72);exact .inl G;rw[if_neg G]at h;by_cases u:P=71/\(a=5/\b=4\/a=4/\b=5);exact .inr (.inl u);rw[if_neg u]at h;by_cases B:P=72/\a=5/\b=4;exact .inr (.inr (.inl B));rw[if_neg B]at h;by_cases c4:(a=3\/a=4)/\(b=3\/b=4);exact .inr (.inr (.inr c4));rw[if_neg c4]at h;exact absurd rfl h
def RS(P a b)(p:P=69\/P=71)(h:¬nU P a b=0):ofM P a b=nU P a b/\(nU P a b=3\/nU P a b=4\/nU P a b=5)/\(a=3\/a=4\/a=5)/\(b=3\/b=4\/b=5)/\(nU P a b≠3->a≠3/\b≠3):=by rcases G2 h with ⟨rfl,rfl,Y⟩|⟨Y,⟨rfl,rfl⟩|⟨rfl,rfl⟩⟩|⟨Y,rfl,rfl⟩|⟨rfl|rfl,rfl|rfl⟩<;>rcases p with rfl|rfl<;>first|decide|omega
def Xu(S Q p F z s)(r:Γ×Bool)(hf:bB 69 F=some z)(P:dj s S.st)(J:s.length<=340)(G:r.1.all bA)(D:eU 69 s=(r,0)):bt Q p 69 F S/\bV S r (aA 69 F S):=by
 obtain⟨a,b,c,d,st,C,g,u,m,K⟩:=S;obtain⟨rfl,rfl⟩:=cQ hf bn;have N:=bH P;simp only at P N;rcases s with _|⟨t1,_|⟨B,s⟩⟩
 cases D;cases D;obtain⟨v,q0,rfl,y,x⟩:=aK P;obtain⟨w,q,rfl,t,o⟩:=aK x;have f1:=bW y.1;have f2:=bW t.1;obtain⟨Y,B2⟩:=t1;obtain⟨V,Bw⟩:=B;have O:(if nU 69 Y V=0 then br 5 else fO (.mk (nU 69 Y V) []::s))=(r,0):=D;split at O;cases O;rename_i j;cases O;have I:=RS 69 Y V bn j;obtain⟨U,rfl,i⟩:=gN (by have:=I.2.2.1;omega) f1.2.1;obtain⟨W,rfl,f⟩:=gN (by have:=I.2.2.2.1;omega) f2.2.1;have E:=kQ I.2.2.1 i;have H:=kQ I.2.2.2.1 f;simp only[aat]at N J;unfold bt;by_cases A:yE (U+W)
 ·have T:xV U W=(U+W,0):=by unfold xV;rw[if_pos ⟨jk.2 E.1,jk.2 H.1⟩];unfold nP;rw[if_pos A]
  have e:aA 69 [] ⟨a,b,c,d,aO Y U::aO V W::q,C,g,u,m,K⟩=bg ⟨a,b,c,d,q,C,g,u,m,K⟩ [aO (ofM 69 Y V) (U+W)]:=by unfold aA;rw[GZ];show(if(xV U W).2≠0 then(((xV U W).2,⟨a,b,c,d,q,C,g,u,m,K⟩):MR)else bg ⟨a,b,c,d,q,C,g,u,m,K⟩ [aO (ofM 69 Y V) (xV U W).1])=_;rw[T];rfl
  rw[e]
  exact⟨eZ _ _ 2 Q 69 p _ [aO Y U,aO V W] q _ bn (by rw[GZ];rfl) gb (KG ⟨a,b,c,d,q,C,g,u,m,K⟩ Y U 0 [] [] [] [] V W 0 [] [] [] [] (U+W) T bT),
   cu (S:=⟨a,b,c,d,q,C,g,u,m,K⟩) (eX (bK G) (by rw[I.1];exact kL I.2.1 (jk.1 A) (λM=>by have:=I.2.2.2.2 M;have:=E.2 this.1;have:=H.2 (I.2.2.2.2 M).2;omega))) o⟩
 have T:xV U W=(0,11):=by unfold xV;rw[if_pos ⟨jk.2 E.1,jk.2 H.1⟩];unfold nP;rw[if_neg A]
 have e:aA 69 [] ⟨a,b,c,d,aO Y U::aO V W::q,C,g,u,m,K⟩=(11,⟨a,b,c,d,q,C,g,u,m,K⟩):=by unfold aA;rw[GZ];show(if(xV U W).2≠0 then(((xV U W).2,⟨a,b,c,d,q,C,g,u,m,K⟩):MR)else bg ⟨a,b,c,d,q,C,g,u,m,K⟩ [aO (ofM 69 Y V) (xV U W).1])=_;rw[T];rfl
 rw[e];exact⟨eZ _ _ 2 Q 69 p _ [aO Y U,aO V W] q _ bn (by rw[GZ];rfl) gb (Ji ⟨a,b,c,d,q,C,g,u,m,K⟩ Y U 0 [] [] [] [] V W 0 [] [] [] [] 0 11 bn T bT),.inr (.inl Z)⟩
def Xw(S Q p F z s)(r:Γ×Bool)(hf:bB 71 F=some z)(P:dj s S.st)(J:s.length<=340)(G:r.1.all bA)(D:eU 71 s=(r,0)):bt Q p 71 F S/\bV S r (aA 71 F S):=by
 obtain⟨a,b,c,d,st,C,g,u,m,K⟩:=S;obtain⟨rfl,rfl⟩:=cQ hf bn;have N:=bH P;simp only at P N;rcases s with _|⟨t1,_|⟨B,s⟩⟩
 cases D;cases D;obtain⟨v,q0,rfl,y,x⟩:=aK P;obtain⟨w,q,rfl,t,o⟩:=aK x;have f1:=bW y.1;have f2:=bW t.1;obtain⟨Y,B2⟩:=t1;obtain⟨V,Bw⟩:=B;have O:(if nU 71 Y V=0 then br 5 else fO (.mk (nU 71 Y V) []::s))=(r,0):=D;split at O;cases O;rename_i j;cases O;have I:=RS 71 Y V bn j;obtain⟨U,rfl,i⟩:=gN (by have:=I.2.2.1;omega) f1.2.1;obtain⟨W,rfl,f⟩:=gN (by have:=I.2.2.2.1;omega) f2.2.1;have E:=kQ I.2.2.1 i;have H:=kQ I.2.2.2.1 f;simp only[aat]at N J;unfold bt;by_cases A:yE (U*W)
 ·have T:vI U W=(U*W,0):=by unfold vI;rw[if_pos ⟨jk.2 E.1,jk.2 H.1⟩];unfold nP;rw[if_pos A]
  have e:aA 71 [] ⟨a,b,c,d,aO Y U::aO V W::q,C,g,u,m,K⟩=bg ⟨a,b,c,d,q,C,g,u,m,K⟩ [aO (ofM 71 Y V) (U*W)]:=by unfold aA;rw[G0];show(if(vI U W).2≠0 then(((vI U W).2,⟨a,b,c,d,q,C,g,u,m,K⟩):MR)else bg ⟨a,b,c,d,q,C,g,u,m,K⟩ [aO (ofM 71 Y V) (vI U W).1])=_;rw[T];rfl
  rw[e]
  exact⟨eZ _ _ 2 Q 71 p _ [aO Y U,aO V W] q _ bn (by rw[G0];rfl) gb (KH ⟨a,b,c,d,q,C,g,u,m,K⟩ Y U 0 [] [] [] [] V W 0 [] [] [] [] (U*W) T bT),
   cu (S:=⟨a,b,c,d,q,C,g,u,m,K⟩) (eX (bK G) (by rw[I.1];exact kL I.2.1 (jk.1 A) (λM=>Int.mul_nonneg (E.2 (I.2.2.2.2 M).1) (H.2 (I.2.2.2.2 M).2)))) o⟩
 have T:vI U W=(0,11):=by unfold vI;rw[if_pos ⟨jk.2 E.1,jk.2 H.1⟩];unfold nP;rw[if_neg A]
 have e:aA 71 [] ⟨a,b,c,d,aO Y U::aO V W::q,C,g,u,m,K⟩=(11,⟨a,b,c,d,q,C,g,u,m,K⟩):=by unfold aA;rw[G0];show(if(vI U W).2≠0 then(((vI U W).2,⟨a,b,c,d,q,C,g,u,m,K⟩):MR)else bg ⟨a,b,c,d,q,C,g,u,m,K⟩ [aO (ofM 71 Y V) (vI U W).1])=_;rw[T];rfl
 rw[e];exact⟨eZ _ _ 2 Q 71 p _ [aO Y U,aO V W] q _ bn (by rw[G0];rfl) gb (Jj ⟨a,b,c,d,q,C,g,u,m,K⟩ Y U 0 [] [] [] [] V W 0 [] [] [] [] 0 11 bn T bT),.inr (.inl Z)⟩
def Xy(S A p P M s)(r:Γ×Bool)(hf:bB 93 P=some M)(Y:dj s S.st)(U:s.length<=340)(N:r.1.all bA)(D:eU 93 s=(r,0)):bt A p 93 P S/\bV S r (aA 93 P S):=by
 obtain⟨a,b,c,d,st,C,g,u,m,K⟩:=S;obtain⟨rfl,rfl⟩:=cQ hf bn;have W:=bH Y;simp only at Y W;cases s with
 |nil=>cases D
 |cons t s =>
 obtain⟨v,q,rfl,J,I⟩:=aK Y;have Q:=bW J.1;obtain⟨T,B⟩:=t;simp only[aat]at W U;have O:(if T=3 then fO (.mk 4 []::s)else br 5)=(r,0):=D;split at O;rotate_left;cases O;rename_i G;subst G;cases O;obtain⟨n,rfl,F⟩:=gN bn Q.2.1;have E:=kQ bn F;unfold bt;have V:pU n=(if n<0 then -n else n,0):=by unfold pU;rw[if_pos (jk.2 E.1)]
 have e:aA 93 [] ⟨a,b,c,d,aO 3 n::q,C,g,u,m,K⟩=bg ⟨a,b,c,d,q,C,g,u,m,K⟩ [aO 4 (pU n).1]:=by unfold aA;rw[Wi];rfl
 rw[e];exact⟨eZ _ _ 2 A 93 p _ [aO 3 n] q _ bn (by rw[Wi];rfl) gM (UF ⟨a,b,c,d,q,C,g,u,m,K⟩ 3 n 0 [] [] [] [] bT),cu (S:=⟨a,b,c,d,q,C,g,u,m,K⟩) (eX (bK N) (kL bn (by rw[V];have:=E.1;show _<=(if n<0 then -n else n)/\(if n<0 then -n else n)<=_;split<;>constructor<;>(unfold bL at *;omega)) (λ_=>by rw[V];show 0<=(if n<0 then -n else n);split<;>omega))) I⟩
def Xz(S Y p Q P s)(r:Γ×Bool)(hf:bB 94 Q=some P)(I:dj s S.st)(E:s.length<=340)(N:r.1.all bA)(D:eU 94 s=(r,0)):bt Y p 94 Q S/\bV S r (aA 94 Q S):=by
 obtain⟨a,b,c,d,st,C,g,u,m,K⟩:=S;obtain⟨rfl,rfl⟩:=cQ hf bn;have W:=bH I;simp only at I W;cases s with
 |nil=>cases D
 |cons t s =>
 obtain⟨v,q,rfl,J,M⟩:=aK I;have V:=bW J.1;obtain⟨T,B⟩:=t;simp only[aat]at W E;have O:(if T=3 then fO (.mk 9 [.mk 4 []]::s)else br 5)=(r,0):=D;split at O;rotate_left;cases O;rename_i G;subst G;cases O;obtain⟨n,rfl,F⟩:=gN bn V.2.1;have U:=kQ bn F;unfold bt;by_cases A:n<0
 ·have e:aA 94 [] ⟨a,b,c,d,aO 3 n::q,C,g,u,m,K⟩=bg ⟨a,b,c,d,q,C,g,u,m,K⟩ [cr []]:=by unfold aA;rw[G1];show(if n<0 then bg ⟨a,b,c,d,q,C,g,u,m,K⟩ [cr []]else bg ⟨a,b,c,d,q,C,g,u,m,K⟩ [cr [aO 4 n]])=_;rw[if_pos A]
  rw[e];exact⟨eZ _ _ 2 Y 94 p _ [aO 3 n] q _ bn (by rw[G1];rfl) gM (RI ⟨a,b,c,d,q,C,g,u,m,K⟩ 3 n 0 [] [] [] [] A bT),cu (S:=⟨a,b,c,d,q,C,g,u,m,K⟩) (eX (bK N) pH) M⟩
 have e:aA 94 [] ⟨a,b,c,d,aO 3 n::q,C,g,u,m,K⟩=bg ⟨a,b,c,d,q,C,g,u,m,K⟩ [cr [aO 4 n]]:=by unfold aA;rw[G1];show(if n<0 then bg ⟨a,b,c,d,q,C,g,u,m,K⟩ [cr []]else bg ⟨a,b,c,d,q,C,g,u,m,K⟩ [cr [aO 4 n]])=_;rw[if_neg A]
 rw[e];exact⟨eZ _ _ 2 Y 94 p _ [aO 3 n] q _ bn (by rw[G1];rfl) gM (RJ ⟨a,b,c,d,q,C,g,u,m,K⟩ 3 n 0 [] [] [] [] A bT),cu (S:=⟨a,b,c,d,q,C,g,u,m,K⟩) (eX (bK N) (kz (kL bn U.1 (λ_=>by omega)))) M⟩
def XA(S A p Q P s)(r:Γ×Bool)(hf:bB 95 Q=some P)(Y:dj s S.st)(E:s.length<=340)(N:r.1.all bA)(D:eU 95 s=(r,0)):bt A p 95 Q S/\bV S r (aA 95 Q S):=by
 obtain⟨a,b,c,d,st,C,g,u,m,K⟩:=S;obtain⟨rfl,rfl⟩:=cQ hf bn;have W:=bH Y;simp only at Y W;cases s with
 |nil=>cases D
 |cons t s =>
 obtain⟨v,q,rfl,J,M⟩:=aK Y;have V:=bW J.1;obtain⟨T,F⟩:=t;simp only[aat]at W E;have O:(if T=4 then fO (.mk 3 []::s)else br 5)=(r,0):=D;split at O;rotate_left;cases O;rename_i G;subst G;cases O;obtain⟨n,rfl,I⟩:=gN bn V.2.1;have U:=kQ bn I;unfold bt;have e:aA 95 [] ⟨a,b,c,d,aO 4 n::q,C,g,u,m,K⟩=bg ⟨a,b,c,d,q,C,g,u,m,K⟩ [aO 3 n]:=by unfold aA;rw[Wj];rfl
 rw[e];exact⟨eZ _ _ 2 A 95 p _ [aO 4 n] q _ bn (by rw[Wj];rfl) (by show List.length (aO 4 n::q)<=_;simp only[aat];omega) (UG ⟨a,b,c,d,q,C,g,u,m,K⟩ 4 n 0 [] [] [] [] bT),cu (S:=⟨a,b,c,d,q,C,g,u,m,K⟩) (eX (bK N) (kL bn U.1 (λh=>absurd Z h))) M⟩
def Xv(S P p F z s)(r:Γ×Bool)(hf:bB 70 F=some z)(M:dj s S.st)(t:s.length<=340)(J:r.1.all bA)(D:eU 70 s=(r,0)):bt P p 70 F S/\bV S r (aA 70 F S):=by
 obtain⟨a,b,c,d,st,C,g,u,m,K⟩:=S;obtain⟨rfl,rfl⟩:=cQ hf bn;have H:=bH M;simp only at M H;rcases s with _|⟨t1,_|⟨o,s⟩⟩
 cases D;cases D;obtain⟨v,q0,rfl,j,i⟩:=aK M;obtain⟨w,q,rfl,f,y⟩:=aK i;have f1:=bW j.1;have f2:=bW f.1;obtain⟨Y,B2⟩:=t1;obtain⟨V,Bw⟩:=o;simp only[aat]at H t;have O:(if nU 70 Y V=0 then br 5 else if(70:Int)=70/\nU 70 Y V=5 then fO (.mk 9 [.mk 5 []]::s)else fO (.mk (nU 70 Y V) []::s))=(r,0):=D;split at O;cases O;rename_i c1;have I:(Y=3\/Y=4\/Y=5)/\(V=3\/V=4\/V=5)/\ofM 70 Y V=nU 70 Y V/\(nU 70 Y V=5/\Y=5/\V=5\/nU 70 Y V=3):=by rcases G2 c1 with ⟨rfl,rfl,x⟩|⟨x,⟨rfl,rfl⟩|⟨rfl,rfl⟩⟩|⟨x,rfl,rfl⟩|⟨rfl|rfl,rfl|rfl⟩<;>first|decide|omega
 obtain⟨U,rfl,g1⟩:=gN (by have:=I.1;omega) f1.2.1;obtain⟨W,rfl,g2⟩:=gN (by have:=I.2.1;omega) f2.2.1;have E:=kQ I.1 g1;have G:=kQ I.2.1 g2;unfold bt;by_cases A:yE (U-W);rotate_left
 ·have T:mo U W=(0,11):=by unfold mo;rw[if_pos ⟨jk.2 E.1,jk.2 G.1⟩];unfold nP;rw[if_neg A]
  have e:aA 70 [] ⟨a,b,c,d,aO Y U::aO V W::q,C,g,u,m,K⟩=(11,⟨a,b,c,d,q,C,g,u,m,K⟩):=by unfold aA;rw[vk];show(if(mo U W).2≠0 then(((mo U W).2,⟨a,b,c,d,q,C,g,u,m,K⟩):MR)else if ofM 70 Y V=5 then(if(mo U W).1<0 then bg ⟨a,b,c,d,q,C,g,u,m,K⟩ [cr []]else bg ⟨a,b,c,d,q,C,g,u,m,K⟩ [cr [aO 5 (mo U W).1]])else bg ⟨a,b,c,d,q,C,g,u,m,K⟩ [aO (ofM 70 Y V) (mo U W).1])=_;rw[T];rfl
  rw[e];exact⟨eZ _ _ 2 P 70 p _ [aO Y U,aO V W] q _ bn (by rw[vk];rfl) gb (Jk ⟨a,b,c,d,q,C,g,u,m,K⟩ Y U 0 [] [] [] [] V W 0 [] [] [] [] 0 11 bn T bT),.inr (.inl Z)⟩
 have T:mo U W=(U-W,0):=by unfold mo;rw[if_pos ⟨jk.2 E.1,jk.2 G.1⟩];unfold nP;rw[if_pos A]
 rcases I.2.2.2 with ⟨k5,rfl,rfl⟩|B
 ·rw[if_pos ⟨Z,k5⟩]at O;cases O;have Q:ofM 70 5 5=5:=by decide
  by_cases N:U-W<0;have e:aA 70 [] ⟨a,b,c,d,aO 5 U::aO 5 W::q,C,g,u,m,K⟩=bg ⟨a,b,c,d,q,C,g,u,m,K⟩ [cr []]:=(by unfold aA;rw[vk];show(if(mo U W).2≠0 then(((mo U W).2,⟨a,b,c,d,q,C,g,u,m,K⟩):MR)else if ofM 70 5 5=5 then(if(mo U W).1<0 then bg ⟨a,b,c,d,q,C,g,u,m,K⟩ [cr []]else bg ⟨a,b,c,d,q,C,g,u,m,K⟩ [cr [aO 5 (mo U W).1]])else bg ⟨a,b,c,d,q,C,g,u,m,K⟩ [aO (ofM 70 5 5) (mo U W).1])=_;rw[T,if_neg (λh=>h Z),if_pos Q,if_pos N]);rw[e];exact⟨eZ _ _ 2 P 70 p _ [aO 5 U,aO 5 W] q _ bn (by rw[vk];rfl) xj (Jl ⟨a,b,c,d,q,C,g,u,m,K⟩ 5 U 0 [] [] [] [] 5 W 0 [] [] [] [] (U-W) Q N T bT),cu (S:=⟨a,b,c,d,q,C,g,u,m,K⟩) (eX (bK J) pH) y⟩;have e:aA 70 [] ⟨a,b,c,d,aO 5 U::aO 5 W::q,C,g,u,m,K⟩=bg ⟨a,b,c,d,q,C,g,u,m,K⟩ [cr [aO 5 (U-W)]]:=by unfold aA;rw[vk];show(if(mo U W).2≠0 then(((mo U W).2,⟨a,b,c,d,q,C,g,u,m,K⟩):MR)else if ofM 70 5 5=5 then(if(mo U W).1<0 then bg ⟨a,b,c,d,q,C,g,u,m,K⟩ [cr []]else bg ⟨a,b,c,d,q,C,g,u,m,K⟩ [cr [aO 5 (mo U W).1]])else bg ⟨a,b,c,d,q,C,g,u,m,K⟩ [aO (ofM 70 5 5) (mo U W).1])=_;rw[T,if_neg (λh=>h Z),if_pos Q,if_neg N]
  rw[e];exact⟨eZ _ _ 2 P 70 p _ [aO 5 U,aO 5 W] q _ bn (by rw[vk];rfl) xj (Jm ⟨a,b,c,d,q,C,g,u,m,K⟩ 5 U 0 [] [] [] [] 5 W 0 [] [] [] [] (U-W) Q N T bT),cu (S:=⟨a,b,c,d,q,C,g,u,m,K⟩) (eX (bK J) (kz (kL bn (jk.1 A) (λ_=>by omega)))) y⟩
 rw[if_neg (λh=>by have:=h.2;omega)]at O;cases O;have Q:ofM 70 Y V≠5:=by rw[I.2.2.1,B];decide
 have e:aA 70 [] ⟨a,b,c,d,aO Y U::aO V W::q,C,g,u,m,K⟩=bg ⟨a,b,c,d,q,C,g,u,m,K⟩ [aO (ofM 70 Y V) (U-W)]:=by unfold aA;rw[vk];show(if(mo U W).2≠0 then(((mo U W).2,⟨a,b,c,d,q,C,g,u,m,K⟩):MR)else if ofM 70 Y V=5 then(if(mo U W).1<0 then bg ⟨a,b,c,d,q,C,g,u,m,K⟩ [cr []]else bg ⟨a,b,c,d,q,C,g,u,m,K⟩ [cr [aO 5 (mo U W).1]])else bg ⟨a,b,c,d,q,C,g,u,m,K⟩ [aO (ofM 70 Y V) (mo U W).1])=_;rw[T,if_neg (λh=>h Z),if_neg Q]
 rw[e];exact⟨eZ _ _ 2 P 70 p _ [aO Y U,aO V W] q _ bn (by rw[vk];rfl) gb (Jn ⟨a,b,c,d,q,C,g,u,m,K⟩ Y U 0 [] [] [] [] V W 0 [] [] [] [] (U-W) Q T bT),cu (S:=⟨a,b,c,d,q,C,g,u,m,K⟩) (eX (bK J) (by rw[I.2.2.1,B];exact kL bn (jk.1 A) (λh=>absurd Z h))) y⟩
def aa0{a b}(Y : -bL<=a/\a<=bL)(U : -bL<=b/\b<=bL)(C:b≠0):(-bL<=a/b/\a/b<=bL)/\(-bL<=a%b/\a%b<=bL)/\0<=a%b/\(0<=a->0<=b->0<=a/b):=by have Q:=Int.natAbs_ediv_le_natAbs a b;have K:=Int.emod_nonneg a C;have V:=Int.emod_lt a C;refine⟨by unfold bL at *;omega,by unfold bL at *;omega,K,λT S=>Int.ediv_nonneg T S⟩
def Xx(S A p F z s)(r:Γ×Bool)(hf:bB 72 F=some z)(M:dj s S.st)(hl:s.length<=340)(N:r.1.all bA)(D:eU 72 s=(r,0)):bt A p 72 F S/\bV S r (aA 72 F S):=by
 obtain⟨a,b,c,d,st,C,g,u,m,K⟩:=S;obtain⟨rfl,rfl⟩:=cQ hf bn;have f:=bH M;simp only at M f;rcases s with _|⟨t1,_|⟨t2,s⟩⟩
 cases D;cases D;obtain⟨v,q0,rfl,hv,J⟩:=aK M;obtain⟨w,q,rfl,hw,y⟩:=aK J;have f1:=bW hv.1;have f2:=bW hw.1;obtain⟨Y,B2⟩:=t1;obtain⟨V,Bw⟩:=t2;simp only[aat]at f hl;have G:(if nU 72 Y V=0 then br 5 else fO (.mk 9 [.mk 11 [.mk (if Y=5/\V=5 then 4 else nU 72 Y V) [],.mk (if Y=5 then 5 else 4) []]]::s))=(r,0):=D;split at G;cases G;rename_i c1;cases G;have I:(Y=3\/Y=4\/Y=5)/\(V=3\/V=4\/V=5):=by rcases G2 c1 with ⟨rfl,rfl,x⟩|⟨x,⟨rfl,rfl⟩|⟨rfl,rfl⟩⟩|⟨x,rfl,rfl⟩|⟨rfl|rfl,rfl|rfl⟩<;>first|decide|omega
 obtain⟨U,rfl,g1⟩:=gN (by have:=I.1;omega) f1.2.1;obtain⟨W,rfl,g2⟩:=gN (by have:=I.2;omega) f2.2.1;have E:=kQ I.1 g1;have H:=kQ I.2 g2;unfold bt;by_cases B:W=0
 ·have T:jb U W=(0,0,6):=by unfold jb;rw[if_pos ⟨jk.2 E.1,jk.2 H.1⟩,if_pos B]
  have e:aA 72 [] ⟨a,b,c,d,aO Y U::aO V W::q,C,g,u,m,K⟩=bg ⟨a,b,c,d,q,C,g,u,m,K⟩ [cr []]:=by unfold aA;rw[mE];show(if(jb U W).2.2≠0 then bg ⟨a,b,c,d,q,C,g,u,m,K⟩ [cr []]else bg ⟨a,b,c,d,q,C,g,u,m,K⟩ [cr [aU (aO (if ofM 72 Y V=5/\V=5 then 4 else ofM 72 Y V) (jb U W).1) (aO (if ofM 72 Y V=5 then 5 else 4) (jb U W).2.1)]])=_;rw[T];rfl
  rw[e];exact⟨eZ _ _ 2 A 72 p _ [aO Y U,aO V W] q _ bn aeO gb (ov ⟨a,b,c,d,q,C,g,u,m,K⟩ Y U 0 [] [] [] [] V W 0 [] [] [] [] _ (UE ⟨a,b,c,d,q,C,g,u,m,K⟩ (ofM 72 Y V) Y U 0 [] [] [] [] V W 0 [] [] [] [] 0 0 6 bn T bT)),cu (S:=⟨a,b,c,d,q,C,g,u,m,K⟩) (eX (bK N) pH) y⟩
 have T:jb U W=(U/W,U%W,0):=by unfold jb;rw[if_pos ⟨jk.2 E.1,jk.2 H.1⟩,if_neg B]
 obtain⟨Q,P,O,t⟩:=aa0 E.1 H.1 B;have o:=E.2;have j:=H.2;rcases G2 c1 with ⟨rfl,rfl,x⟩|⟨x,_⟩|⟨x,rfl,rfl⟩|i
 ·have e:aA 72 [] ⟨a,b,c,d,aO 5 U::aO 5 W::q,C,g,u,m,K⟩=bg ⟨a,b,c,d,q,C,g,u,m,K⟩ [cr [aU (aO 4 (U/W)) (aO 5 (U%W))]]:=by unfold aA;rw[mE];show(if(jb U W).2.2≠0 then bg ⟨a,b,c,d,q,C,g,u,m,K⟩ [cr []]else bg ⟨a,b,c,d,q,C,g,u,m,K⟩ [cr [aU (aO (if ofM 72 5 5=5/\5=5 then 4 else ofM 72 5 5) (jb U W).1) (aO (if ofM 72 5 5=5 then 5 else 4) (jb U W).2.1)]])=_;rw[T,if_neg (λh=>h Z)];rfl
  rw[e];exact⟨eZ _ _ 2 A 72 p _ [aO 5 U,aO 5 W] q _ bn aeO xj (ov ⟨a,b,c,d,q,C,g,u,m,K⟩ 5 U 0 [] [] [] [] 5 W 0 [] [] [] [] _ (XM ⟨a,b,c,d,q,C,g,u,m,K⟩ (ofM 72 5 5) 5 U 0 [] [] [] [] 5 W 0 [] [] [] [] (U/W) (U%W) bn Z T bT)),cu (S:=⟨a,b,c,d,q,C,g,u,m,K⟩) (eX (bK N) (kz (kX (kL bn Q (λ_=>t (o bn) (j bn))) (kL bn P (λ_=>O))))) y⟩
 omega
 ·have e:aA 72 [] ⟨a,b,c,d,aO 5 U::aO 4 W::q,C,g,u,m,K⟩=bg ⟨a,b,c,d,q,C,g,u,m,K⟩ [cr [aU (aO 5 (U/W)) (aO 5 (U%W))]]:=by unfold aA;rw[mE];show(if(jb U W).2.2≠0 then bg ⟨a,b,c,d,q,C,g,u,m,K⟩ [cr []]else bg ⟨a,b,c,d,q,C,g,u,m,K⟩ [cr [aU (aO (if ofM 72 5 4=5/\4=5 then 4 else ofM 72 5 4) (jb U W).1) (aO (if ofM 72 5 4=5 then 5 else 4) (jb U W).2.1)]])=_;rw[T,if_neg (λh=>h Z)];rfl
  rw[e];exact⟨eZ _ _ 2 A 72 p _ [aO 5 U,aO 4 W] q _ bn aeO (by show List.length (aO 5 U::aO 4 W::q)<=_;simp only[aat];omega) (ov ⟨a,b,c,d,q,C,g,u,m,K⟩ 5 U 0 [] [] [] [] 4 W 0 [] [] [] [] _ (aaL ⟨a,b,c,d,q,C,g,u,m,K⟩ (ofM 72 5 4) 5 U 0 [] [] [] [] 4 W 0 [] [] [] [] (U/W) (U%W) bn bn T bT)),cu (S:=⟨a,b,c,d,q,C,g,u,m,K⟩) (eX (bK N) (kz (kX (kL bn Q (λ_=>t (o bn) (j bn))) (kL bn P (λ_=>O))))) y⟩
 rcases i with ⟨rfl|rfl,rfl|rfl⟩
 ·have e:aA 72 [] ⟨a,b,c,d,aO 3 U::aO 3 W::q,C,g,u,m,K⟩=bg ⟨a,b,c,d,q,C,g,u,m,K⟩ [cr [aU (aO 3 (U/W)) (aO 4 (U%W))]]:=by unfold aA;rw[mE];show(if(jb U W).2.2≠0 then bg ⟨a,b,c,d,q,C,g,u,m,K⟩ [cr []]else bg ⟨a,b,c,d,q,C,g,u,m,K⟩ [cr [aU (aO (if ofM 72 3 3=5/\3=5 then 4 else ofM 72 3 3) (jb U W).1) (aO (if ofM 72 3 3=5 then 5 else 4) (jb U W).2.1)]])=_;rw[T,if_neg (λh=>h Z)];rfl
  rw[e];exact⟨eZ _ _ 2 A 72 p _ [aO 3 U,aO 3 W] q _ bn aeO (by show List.length (aO 3 U::aO 3 W::q)<=_;simp only[aat];omega) (ov ⟨a,b,c,d,q,C,g,u,m,K⟩ 3 U 0 [] [] [] [] 3 W 0 [] [] [] [] _ (Dy ⟨a,b,c,d,q,C,g,u,m,K⟩ (ofM 72 3 3) 3 U 0 [] [] [] [] 3 W 0 [] [] [] [] (U/W) (U%W) bn T bT)),cu (S:=⟨a,b,c,d,q,C,g,u,m,K⟩) (eX (bK N) (kz (kX (kL bn Q (λh=>absurd Z h)) (kL bn P (λ_=>O))))) y⟩
 ·have e:aA 72 [] ⟨a,b,c,d,aO 3 U::aO 4 W::q,C,g,u,m,K⟩=bg ⟨a,b,c,d,q,C,g,u,m,K⟩ [cr [aU (aO 3 (U/W)) (aO 4 (U%W))]]:=by unfold aA;rw[mE];show(if(jb U W).2.2≠0 then bg ⟨a,b,c,d,q,C,g,u,m,K⟩ [cr []]else bg ⟨a,b,c,d,q,C,g,u,m,K⟩ [cr [aU (aO (if ofM 72 3 4=5/\4=5 then 4 else ofM 72 3 4) (jb U W).1) (aO (if ofM 72 3 4=5 then 5 else 4) (jb U W).2.1)]])=_;rw[T,if_neg (λh=>h Z)];rfl
  rw[e];exact⟨eZ _ _ 2 A 72 p _ [aO 3 U,aO 4 W] q _ bn aeO (by show List.length (aO 3 U::aO 4 W::q)<=_;simp only[aat];omega) (ov ⟨a,b,c,d,q,C,g,u,m,K⟩ 3 U 0 [] [] [] [] 4 W 0 [] [] [] [] _ (Dy ⟨a,b,c,d,q,C,g,u,m,K⟩ (ofM 72 3 4) 3 U 0 [] [] [] [] 4 W 0 [] [] [] [] (U/W) (U%W) bn T bT)),cu (S:=⟨a,b,c,d,q,C,g,u,m,K⟩) (eX (bK N) (kz (kX (kL bn Q (λh=>absurd Z h)) (kL bn P (λ_=>O))))) y⟩
 ·have e:aA 72 [] ⟨a,b,c,d,aO 4 U::aO 3 W::q,C,g,u,m,K⟩=bg ⟨a,b,c,d,q,C,g,u,m,K⟩ [cr [aU (aO 3 (U/W)) (aO 4 (U%W))]]:=by unfold aA;rw[mE];show(if(jb U W).2.2≠0 then bg ⟨a,b,c,d,q,C,g,u,m,K⟩ [cr []]else bg ⟨a,b,c,d,q,C,g,u,m,K⟩ [cr [aU (aO (if ofM 72 4 3=5/\3=5 then 4 else ofM 72 4 3) (jb U W).1) (aO (if ofM 72 4 3=5 then 5 else 4) (jb U W).2.1)]])=_;rw[T,if_neg (λh=>h Z)];rfl
  rw[e];exact⟨eZ _ _ 2 A 72 p _ [aO 4 U,aO 3 W] q _ bn aeO (by show List.length (aO 4 U::aO 3 W::q)<=_;simp only[aat];omega) (ov ⟨a,b,c,d,q,C,g,u,m,K⟩ 4 U 0 [] [] [] [] 3 W 0 [] [] [] [] _ (Dy ⟨a,b,c,d,q,C,g,u,m,K⟩ (ofM 72 4 3) 4 U 0 [] [] [] [] 3 W 0 [] [] [] [] (U/W) (U%W) bn T bT)),cu (S:=⟨a,b,c,d,q,C,g,u,m,K⟩) (eX (bK N) (kz (kX (kL bn Q (λh=>absurd Z h)) (kL bn P (λ_=>O))))) y⟩
 have e:aA 72 [] ⟨a,b,c,d,aO 4 U::aO 4 W::q,C,g,u,m,K⟩=bg ⟨a,b,c,d,q,C,g,u,m,K⟩ [cr [aU (aO 4 (U/W)) (aO 4 (U%W))]]:=by unfold aA;rw[mE];show(if(jb U W).2.2≠0 then bg ⟨a,b,c,d,q,C,g,u,m,K⟩ [cr []]else bg ⟨a,b,c,d,q,C,g,u,m,K⟩ [cr [aU (aO (if ofM 72 4 4=5/\4=5 then 4 else ofM 72 4 4) (jb U W).1) (aO (if ofM 72 4 4=5 then 5 else 4) (jb U W).2.1)]])=_;rw[T,if_neg (λh=>h Z)];rfl
 rw[e];exact⟨eZ _ _ 2 A 72 p _ [aO 4 U,aO 4 W] q _ bn aeO (by show List.length (aO 4 U::aO 4 W::q)<=_;simp only[aat];omega) (ov ⟨a,b,c,d,q,C,g,u,m,K⟩ 4 U 0 [] [] [] [] 4 W 0 [] [] [] [] _ (Dy ⟨a,b,c,d,q,C,g,u,m,K⟩ (ofM 72 4 4) 4 U 0 [] [] [] [] 4 W 0 [] [] [] [] (U/W) (U%W) bn T bT)),cu (S:=⟨a,b,c,d,q,C,g,u,m,K⟩) (eX (bK N) (kz (kX (kL bn Q (λ_=>t (o bn) (j bn))) (kL bn P (λ_=>O))))) y⟩
end Go.Proofs
open Go.IntKind Go.Proofs.Tryz
namespace Go.Proofs
open Go.cE
def AX{v}{U:Γ}(h:bJ v (.mk 6 U)):∃s,v = .mk 6 0 0 s [] [] []/\s.length<=200:=by obtain⟨k,n,a,s,V,Y,code⟩:=v;obtain⟨I,M,E⟩:=jn h;simp only[cL]at I;subst I;simp[cG]at M;obtain⟨rfl,rfl,rfl,rfl,rfl⟩:=M;exact⟨s,rfl,E⟩
def LO{s:Δ}{Y:Γ}(h:s.length<=200):bJ (.mk 6 0 0 s [] [] []) (.mk 6 Y)/\fE (.mk 6 0 0 s [] [] []):=by simp[bJ,cG,cL,fE,eo];omega
def rC{b}{Y:Γ}:bJ (jL b) (.mk 2 Y)/\fE (jL b):=by cases b;exact pG (.inl ⟨rfl,bn,bn⟩);exact pG (.inl ⟨rfl,bn,bn⟩)
def V5:bP 73=2:=by decide +kernel
def V6:bP 74=1:=by decide +kernel
def V7:bP 75=1:=by decide +kernel
def V8:bP 76=1:=by decide +kernel
def V9:bP 77=1:=by decide +kernel
def Ov:bP 78=2:=by decide +kernel
def Ow:bP 79=2:=by decide +kernel
def GY:bP 80=2:=by decide +kernel
def Ox:bP 81=1:=by decide +kernel
def Oy:bP 82=1:=by decide +kernel
def Wa:bP 83=1:=by decide +kernel
def Rn(S A p U Q s)(r:Γ×Bool)(hf:bB 74 U=some Q)(Y:dj s S.st)(E:s.length<=340)(N:r.1.all bA)(D:kj 74 Q s=(r,0)):bt A p 74 U S/\bV S r (aA 74 U S):=by
 obtain⟨a,b,c,d,st,C,g,u,m,K⟩:=S;obtain⟨rfl,rfl⟩:=cQ hf bn;have W:=bH Y;simp only at Y W;cases s with
 |nil=>cases D
 |cons t s =>
 obtain⟨v,q,rfl,J,P⟩:=aK Y;have V:=bW J.1;obtain⟨T,M⟩:=t;simp only[aat]at W E;have O:(if T=3 then fO (.mk 2 []::s)else br 5)=(r,0):=D;split at O;rotate_left;cases O;rename_i G;cases O;subst G;obtain⟨n,rfl,I⟩:=gN bn V.2.1;unfold bt;have e:aA 74 [] ⟨a,b,c,d,aO 3 n::q,C,g,u,m,K⟩=bg ⟨a,b,c,d,q,C,g,u,m,K⟩ [jL (n==0)]:=by unfold aA;rw[V6];rfl
 rw[e];exact⟨iR _ _ 2 A 74 p _ [aO 3 n] q _ bn (by rw[V6];rfl) gM (adC ⟨a,b,c,d,q,C,g,u,m,K⟩ A p 3 n 0 [] [] [] [] bT),cu (S:=⟨a,b,c,d,q,C,g,u,m,K⟩) (eX (bK N) rC) P⟩
def Ro(S A p U Q s)(r:Γ×Bool)(hf:bB 75 U=some Q)(Y:dj s S.st)(E:s.length<=340)(N:r.1.all bA)(D:kj 75 Q s=(r,0)):bt A p 75 U S/\bV S r (aA 75 U S):=by
 obtain⟨a,b,c,d,st,C,g,u,m,K⟩:=S;obtain⟨rfl,rfl⟩:=cQ hf bn;have W:=bH Y;simp only at Y W;cases s with
 |nil=>cases D
 |cons t s =>
 obtain⟨v,q,rfl,J,P⟩:=aK Y;have V:=bW J.1;obtain⟨T,M⟩:=t;simp only[aat]at W E;have O:(if T=3 then fO (.mk 2 []::s)else br 5)=(r,0):=D;split at O;rotate_left;cases O;rename_i G;cases O;subst G;obtain⟨n,rfl,I⟩:=gN bn V.2.1;unfold bt;have e:aA 75 [] ⟨a,b,c,d,aO 3 n::q,C,g,u,m,K⟩=bg ⟨a,b,c,d,q,C,g,u,m,K⟩ [jL (decide (n<0))]:=by unfold aA;rw[V7];rfl
 rw[e];exact⟨iR _ _ 2 A 75 p _ [aO 3 n] q _ bn (by rw[V7];rfl) gM (adD ⟨a,b,c,d,q,C,g,u,m,K⟩ A p 3 n 0 [] [] [] [] bT),cu (S:=⟨a,b,c,d,q,C,g,u,m,K⟩) (eX (bK N) rC) P⟩
def Rp(S A p U Q s)(r:Γ×Bool)(hf:bB 76 U=some Q)(Y:dj s S.st)(E:s.length<=340)(N:r.1.all bA)(D:kj 76 Q s=(r,0)):bt A p 76 U S/\bV S r (aA 76 U S):=by
 obtain⟨a,b,c,d,st,C,g,u,m,K⟩:=S;obtain⟨rfl,rfl⟩:=cQ hf bn;have W:=bH Y;simp only at Y W;cases s with
 |nil=>cases D
 |cons t s =>
 obtain⟨v,q,rfl,J,P⟩:=aK Y;have V:=bW J.1;obtain⟨T,M⟩:=t;simp only[aat]at W E;have O:(if T=3 then fO (.mk 2 []::s)else br 5)=(r,0):=D;split at O;rotate_left;cases O;rename_i G;cases O;subst G;obtain⟨n,rfl,I⟩:=gN bn V.2.1;unfold bt;have e:aA 76 [] ⟨a,b,c,d,aO 3 n::q,C,g,u,m,K⟩=bg ⟨a,b,c,d,q,C,g,u,m,K⟩ [jL (decide (n>0))]:=by unfold aA;rw[V8];rfl
 rw[e];exact⟨iR _ _ 2 A 76 p _ [aO 3 n] q _ bn (by rw[V8];rfl) gM (adE ⟨a,b,c,d,q,C,g,u,m,K⟩ A p 3 n 0 [] [] [] [] bT),cu (S:=⟨a,b,c,d,q,C,g,u,m,K⟩) (eX (bK N) rC) P⟩
def XC(S A p U Q s)(r:Γ×Bool)(hf:bB 77 U=some Q)(Y:dj s S.st)(E:s.length<=340)(N:r.1.all bA)(D:kj 77 Q s=(r,0)):bt A p 77 U S/\bV S r (aA 77 U S):=by
 obtain⟨a,b,c,d,st,C,g,u,m,K⟩:=S;obtain⟨rfl,rfl⟩:=cQ hf bn;have W:=bH Y;simp only at Y W;cases s with
 |nil=>cases D
 |cons t s =>
 obtain⟨v,q,rfl,J,P⟩:=aK Y;have V:=bW J.1;obtain⟨T,M⟩:=t;simp only[aat]at W E;have O:(if T=2 then fO (.mk T M::s)else br 5)=(r,0):=D;split at O;rotate_left;cases O;rename_i G;cases O;subst G;obtain⟨n,rfl,I⟩:=gN bn V.2.1;unfold bt;have e:aA 77 [] ⟨a,b,c,d,aO 2 n::q,C,g,u,m,K⟩=bg ⟨a,b,c,d,q,C,g,u,m,K⟩ [jL (n==0)]:=by unfold aA;rw[V9];rfl
 rw[e];exact⟨iR _ _ 2 A 77 p _ [aO 2 n] q _ bn (by rw[V9];rfl) (by show List.length (aO 2 n::q)<=_;simp only[aat];omega) (adF ⟨a,b,c,d,q,C,g,u,m,K⟩ A p 2 n 0 [] [] [] [] bT),cu (S:=⟨a,b,c,d,q,C,g,u,m,K⟩) (eX (bK N) rC) P⟩
def XD(S A p F z s)(r:Γ×Bool)(hf:bB 78 F=some z)(Y:dj s S.st)(E:s.length<=340)(N:r.1.all bA)(D:kj 78 z s=(r,0)):bt A p 78 F S/\bV S r (aA 78 F S):=by
 obtain⟨a,b,c,d,st,C,g,u,m,K⟩:=S;obtain⟨rfl,rfl⟩:=cQ hf bn;have V:=bH Y;simp only at Y V;rcases s with _|⟨t1,_|⟨I,s⟩⟩
 cases D;cases D;obtain⟨v,x,rfl,J,Q⟩:=aK Y;obtain⟨w,q,rfl,P,y⟩:=aK Q;have M:=bW J.1;have G:=bW P.1;obtain⟨T,t⟩:=t1;obtain⟨U,H⟩:=I;simp only[aat]at V E;have O:(if T=2/\U=2 then fO (.mk U H::s)else br 5)=(r,0):=D;split at O;rotate_left;cases O;rename_i B;cases O;obtain⟨rfl,rfl⟩:=B;obtain⟨n,rfl,o⟩:=gN bn M.2.1;obtain⟨W,rfl,j⟩:=gN bn G.2.1;unfold bt;have e:aA 78 [] ⟨a,b,c,d,aO 2 n::aO 2 W::q,C,g,u,m,K⟩=bg ⟨a,b,c,d,q,C,g,u,m,K⟩ [jL (decide (n=1/\W=1))]:=by unfold aA;rw[Ov];rfl
 rw[e];by_cases h:n=1
 ·rw[show decide (n=1/\W=1)=(W==1)from by simp[h];try rfl];exact⟨iR _ _ 2 A 78 p _ [aO 2 n,aO 2 W] q _ bn (by rw[Ov];rfl) oy (aaN ⟨a,b,c,d,q,C,g,u,m,K⟩ A p 2 n 0 [] [] [] [] 2 W 0 [] [] [] [] h bT),cu (S:=⟨a,b,c,d,q,C,g,u,m,K⟩) (eX (bK N) rC) y⟩
 rw[show decide (n=1/\W=1)=false from by simp[h];try rfl];exact⟨iR _ _ 2 A 78 p _ [aO 2 n,aO 2 W] q _ bn (by rw[Ov];rfl) oy (aaO ⟨a,b,c,d,q,C,g,u,m,K⟩ A p 2 n 0 [] [] [] [] 2 W 0 [] [] [] [] h bT),cu (S:=⟨a,b,c,d,q,C,g,u,m,K⟩) (eX (bK N) rC) y⟩
def aaz(S A p F z s)(r:Γ×Bool)(hf:bB 79 F=some z)(Y:dj s S.st)(E:s.length<=340)(N:r.1.all bA)(D:kj 79 z s=(r,0)):bt A p 79 F S/\bV S r (aA 79 F S):=by
 obtain⟨a,b,c,d,st,C,g,u,m,K⟩:=S;obtain⟨rfl,rfl⟩:=cQ hf bn;have V:=bH Y;simp only at Y V;rcases s with _|⟨t1,_|⟨I,s⟩⟩
 cases D;cases D;obtain⟨v,x,rfl,J,Q⟩:=aK Y;obtain⟨w,q,rfl,P,y⟩:=aK Q;have M:=bW J.1;have G:=bW P.1;obtain⟨T,t⟩:=t1;obtain⟨U,H⟩:=I;simp only[aat]at V E;have O:(if T=2/\U=2 then fO (.mk U H::s)else br 5)=(r,0):=D;split at O;rotate_left;cases O;rename_i B;cases O;obtain⟨rfl,rfl⟩:=B;obtain⟨n,rfl,o⟩:=gN bn M.2.1;obtain⟨W,rfl,j⟩:=gN bn G.2.1;unfold bt;have e:aA 79 [] ⟨a,b,c,d,aO 2 n::aO 2 W::q,C,g,u,m,K⟩=bg ⟨a,b,c,d,q,C,g,u,m,K⟩ [jL (decide (n=1\/W=1))]:=by unfold aA;rw[Ow];rfl
 rw[e];by_cases h:n=1
 ·rw[show decide (n=1\/W=1) from by simp[h];try rfl];exact⟨iR _ _ 2 A 79 p _ [aO 2 n,aO 2 W] q _ bn (by rw[Ow];rfl) oy (aaP ⟨a,b,c,d,q,C,g,u,m,K⟩ A p 2 n 0 [] [] [] [] 2 W 0 [] [] [] [] h bT),cu (S:=⟨a,b,c,d,q,C,g,u,m,K⟩) (eX (bK N) rC) y⟩
 rw[show decide (n=1\/W=1)=(W==1)from by simp[h];try rfl];exact⟨iR _ _ 2 A 79 p _ [aO 2 n,aO 2 W] q _ bn (by rw[Ow];rfl) oy (aaQ ⟨a,b,c,d,q,C,g,u,m,K⟩ A p 2 n 0 [] [] [] [] 2 W 0 [] [] [] [] h bT),cu (S:=⟨a,b,c,d,q,C,g,u,m,K⟩) (eX (bK N) rC) y⟩
def NZ(S A Y F z s)(r:Γ×Bool)(hf:bB 80 F=some z)(I:dj s S.st)(E:s.length<=340)(N:r.1.all bA)(D:kj 80 z s=(r,0)):bt A Y 80 F S/\bV S r (aA 80 F S):=by
 obtain⟨a,b,c,d,st,C,g,u,m,K⟩:=S;obtain⟨rfl,rfl⟩:=cQ hf bn;have W:=bH I;simp only at I W;rcases s with _|⟨t1,_|⟨U,s⟩⟩
 cases D;cases D;obtain⟨v,t,rfl,J,Q⟩:=aK I;obtain⟨w,q,rfl,M,y⟩:=aK Q;have H:=bW J.1;have G:=bW M.1;obtain⟨T,o⟩:=t1;obtain⟨V,B⟩:=U;simp only[aat]at W E;have O:(if T=6/\V=6 then fO (.mk V B::s)else br 5)=(r,0):=D;split at O;rotate_left;cases O;rename_i x;cases O;obtain⟨rfl,rfl⟩:=x;obtain⟨P,rfl,j⟩:=AX H.2.1;obtain⟨p,rfl,i⟩:=AX G.2.1;unfold bt;by_cases h:200<P.length+p.length
 ·have e:aA 80 [] ⟨a,b,c,d,.mk 6 0 0 P [] [] [] :: .mk 6 0 0 p [] [] []::q,C,g,u,m,K⟩=(13,⟨a,b,c,d,q,C,g,u,m,K⟩):=by unfold aA;rw[GY];show(if 200<P.length+p.length then((13,⟨a,b,c,d,q,C,g,u,m,K⟩):MR)else bg ⟨a,b,c,d,q,C,g,u,m,K⟩ [.mk 6 0 0 (P++p) [] [] []])=_;rw[if_pos h]
  rw[e];exact⟨iR _ _ 2 A 80 Y _ [.mk 6 0 0 P [] [] [],.mk 6 0 0 p [] [] []] q _ bn (by rw[GY];rfl) u6 (XN ⟨a,b,c,d,q,C,g,u,m,K⟩ A Y 6 0 0 P [] [] [] 6 0 0 p [] [] [] h ai bT),.inr (.inr Z)⟩
 have e:aA 80 [] ⟨a,b,c,d,.mk 6 0 0 P [] [] [] :: .mk 6 0 0 p [] [] []::q,C,g,u,m,K⟩=bg ⟨a,b,c,d,q,C,g,u,m,K⟩ [.mk 6 0 0 (P++p) [] [] []]:=by unfold aA;rw[GY];show(if 200<P.length+p.length then((13,⟨a,b,c,d,q,C,g,u,m,K⟩):MR)else bg ⟨a,b,c,d,q,C,g,u,m,K⟩ [.mk 6 0 0 (P++p) [] [] []])=_;rw[if_neg h]
 rw[e];exact⟨iR _ _ 2 A 80 Y _ [.mk 6 0 0 P [] [] [],.mk 6 0 0 p [] [] []] q _ bn (by rw[GY];rfl) u6 (XO ⟨a,b,c,d,q,C,g,u,m,K⟩ A Y 6 0 0 P [] [] [] 6 0 0 p [] [] [] h bT),cu (S:=⟨a,b,c,d,q,C,g,u,m,K⟩) (eX (bK N) (LO (by rw[acg];omega))) y⟩
def UM(a b) : -1<=fS a b/\fS a b<=1:=by unfold fS;repeat' split<;>(try omega)
mutual
def RM:∀v w:Vl,-1<=ee v w/\ee v w<=1
 |.mk k n a s P O code,.mk N V T U Q Y W=>by
  have M:=LP P Q;have K:=UM s U;have B:=A4 n V;have S:=A4 P.length Q.length;unfold ee
  try dsimp only
  repeat' split
  all_goals assumption
def LP:∀v w:Ξ,-1<=kN v w/\kN v w<=1
 |x::l,y::r=>by have Y:=RM x y;have V:=LP l r;unfold kN;split<;>assumption
 |[],_=>by simp[kN]
 |_::_,[]=>by simp[kN]
end
def RN{p:Int->Bool}:∀{l x},oW p l->x∈l->vE p x
 |y::l,x,h,O=>by
  simp only[oW,aaI]at h;rcases List.mem_cons.1 O with rfl|O
  exact h.1;exact RN h.2 O
def XB S(T)p(F)(z s)(r:Γ×Bool)(hf:bB 73 F=some z)(I:dj s S.st)(j:s.length<=340)(i:r.1.all bA)(D:kj 73 z s=(r,0)):bt T p 73 F S/\bV S r (aA 73 F S):=by
 obtain⟨a,b,c,d,st,C,g,u,m,K⟩:=S;obtain⟨rfl,rfl⟩:=cQ hf bn;have U:=bH I;simp only at I U;rcases s with _|⟨t1,_|⟨f,s⟩⟩
 cases D;cases D;obtain⟨v,q0,rfl,J,pR⟩:=aK I;obtain⟨w,q,rfl,hw,hq⟩:=aK pR;have Q:=bW J.1;have f2:=bW hw.1;simp only[aat]at U j;have O:(if cx t1 f=true/\fZ t1 then fO (.mk 3 []::s)else br 5)=(r,0):=D;split at O;rotate_left;cases O;rename_i c1;cases O;have et:=(eD _ _).1 c1.1;subst et;have V:=Dn v w t1 (nw Q.1) Q.2.1 f2.2.1 (by have:=J.2;omega);have ω:=RM v w;unfold bt;have e:aA 73 [] ⟨a,b,c,d,v::w::q,C,g,u,m,K⟩=bg ⟨a,b,c,d,q,C,g,u,m,K⟩ [aO 3 (ee v w)]:=by unfold aA;rw[V5];rfl
 rw[e];obtain⟨P,N,M,H,Y,G,B⟩:=v;obtain⟨E,A,y,x,W,t,o⟩:=w;exact⟨iR _ _ 2 T 73 p _ [_,_] q _ bn (by rw[V5];rfl) (by show List.length (Vl.mk P N M H Y G B::Vl.mk E A y x W t o::q)<=_;simp only[aat];omega) (aaM ⟨a,b,c,d,q,C,g,u,m,K⟩ T p P N M H Y G B E A y x W t o V bT),cu (S:=⟨a,b,c,d,q,C,g,u,m,K⟩) (eX (bK i) (kL bn gn (λh=>absurd Z h))) hq⟩
def aeP(o:MR):Prop:=o.1=10/\vK o.2.said≠0/\aG o.2.said<=25000000
def adG{v t}(N:bA t)(h:bJ v t):vK v≠0:=by obtain⟨k,n,a,s,V,Y,code⟩:=v;show k≠0;rintro rfl;simp[bJ]at h
def Ux(S T p N M s)(r:Γ×Bool)(hf:bB 83 N=some M)(I:dj s S.st)(E:s.length<=340)(O:kj 83 M s=(r,0)):bt T p 83 N S/\aeP (aA 83 N S):=by
 obtain⟨a,b,c,d,st,C,g,u,m,K⟩:=S;obtain⟨rfl,rfl⟩:=cQ hf bn;have D:=bH I;simp only at I D;cases s with
 |nil=>cases O
 |cons t s =>
 obtain⟨v,q,rfl,J,F⟩:=aK I;have V:=bW J.1;simp only[aat]at D E;unfold bt;have e:aA 83 [] ⟨a,b,c,d,v::q,C,g,u,m,K⟩=(10,⟨a,b,c,d,q,C,g,u,m,v⟩):=by unfold aA;rw[Wa];rfl
 rw[e];refine⟨?_,Z,adG V.1 V.2.1,J.2⟩;obtain⟨W,U,Q,P,Y,H,B⟩:=v;exact iR _ _ 2 T 83 p _ [_] q _ bn (by rw[Wa];rfl) (by show List.length (Vl.mk W U Q P Y H B::q)<=_;simp only[aat];omega) (XP ⟨a,b,c,d,q,C,g,u,m,K⟩ T p W U Q P Y H B bT)
def Um(S A W F z s)(r:Γ×Bool)(hf:bB 81 F=some z)(I:dj s S.st)(x:s.length<=340)(o:r.1.all bA)(D:kj 81 z s=(r,0)):bt A W 81 F S/\bV S r (aA 81 F S):=by
 obtain⟨a,b,c,d,st,C,g,u,m,K⟩:=S;obtain⟨rfl,rfl⟩:=cQ hf bn;have N:=bH I;simp only at I N;cases s with
 |nil=>cases D
 |cons t s =>
 obtain⟨v,q,rfl,J,j⟩:=aK I;have M:=bW J.1;simp only[aat]at N x;have O:(if iF t=true then fO (.mk 6 []::s)else br 5)=(r,0):=D;split at O;rotate_left;cases O;cases O;have G:=Tk t v (nw M.1) M.2.1 (by have:=J.2;omega);have e:aA 81 [] ⟨a,b,c,d,v::q,C,g,u,m,K⟩=(if(yl v).2≠0 then((13,⟨a,b,c,d,q,C,g,u,m,K⟩):MR)else bg ⟨a,b,c,d,q,C,g,u,m,K⟩ [.mk 6 0 0 (yl v).1 [] [] []]):=by unfold aA;rw[Ox];rfl
 have T:(yl v).1.length<=200:=by unfold yl;split;grind;simp
 unfold bt;rw[e];generalize yl v=p at *;obtain⟨E,y⟩:=p;obtain⟨V,U,Q,P,Y,H,B⟩:=v;by_cases h:y=0;subst h;rw[if_neg (λh=>h Z)];exact⟨iR _ _ 2 A 81 W _ [_] q _ bn (by rw[Ox];rfl) RR (UI ⟨a,b,c,d,q,C,g,u,m,K⟩ A W V U Q P Y H B E G (by simp only at T;omega) bT),cu (S:=⟨a,b,c,d,q,C,g,u,m,K⟩) (eX (bK o) (LO T)) j⟩;rw[if_pos h];exact⟨iR _ _ 2 A 81 W _ [_] q _ bn (by rw[Ox];rfl) RR (UH ⟨a,b,c,d,q,C,g,u,m,K⟩ A W V U Q P Y H B E y G h bT),.inr (.inr Z)⟩
def va{v t u}(h:bJ v (.mk 13 [t,u]))(Y:fE v):∃l,v = .mk 13 0 0 [] l [] []/\l.length<=24/\aS l (.mk 11 [t,u])/\Cu l/\eo l:=by obtain⟨k,n,a,s,V,U,code⟩:=v;obtain⟨I,M,_⟩:=jn h;simp only[cL]at I;subst I;simp[cG]at M;simp[bJ,cG,cL,aL,aQ]at h;obtain⟨rfl,rfl,rfl,rfl⟩:=M;simp[fE]at Y;obtain⟨_,⟨⟨T,S⟩,B⟩,W⟩:=h;exact⟨V,by rw[T],S,B,W,Y⟩
def Dp{l t u}(E:l.length<=24)(h:aS l (.mk 11 [t,u]))(p:Cu l)(Y:eo l):bJ (.mk 13 0 0 [] l [] []) (.mk 13 [t,u])/\fE (.mk 13 0 0 [] l [] []):=by simp[bJ,cG,cL,aL,aQ,fE,h,Y,E,p]
def VQ{P O Q}(h:bB P O=some Q)(I:iq P=[116,116]):∃x y,O=[x,y]/\(aM x).2=0/\(aM y).2=0/\Q=[(aM x).1,(aM y).1]:=by
 obtain⟨M,K⟩:=l8 h;rw[I]at M K;rcases O with _|⟨x,_|⟨y,_|⟨z,r⟩⟩⟩
 simp at M;simp at M;obtain⟨T,N,p,q,J⟩:=x;obtain⟨Y,V,U,S,W⟩:=y;have B:(if(aM (.mk T N p q J)).2=0 then(if(aM (.mk Y V U S W)).2=0 then some ([]++[(aM (.mk T N p q J)).1]++[(aM (.mk Y V U S W)).1])else none)else none)=some Q:=K;split at B;grind;cases B;simp at M
def NO:bP 57=2:=by decide +kernel
def NP:bP 59=1:=by decide +kernel
def NQ:bP 61=0:=by decide +kernel
def Uc(S T p F)(y:L (Γ->CR))(z s)(r:Γ×Bool)(hf:bB 57 F=some z)(I:dj s S.st)(hl:s.length<=340)(hg:r.1.all bA)(D:dh 57 y z s=(r,0)):bt T p 57 F S/\bV S r (aA 57 F S):=by
 obtain⟨a,b,c,d,st,C,g,u,m,K⟩:=S;obtain⟨rfl,rfl⟩:=cQ hf bn;have J:=bH I;simp only at I J;rcases s with _|⟨t1,_|⟨t2,s⟩⟩
 cases D;cases D;obtain⟨v,q0,rfl,H,pR⟩:=aK I;obtain⟨w,q,rfl,E,hq⟩:=aK pR;have f1:=bW H.1;have G:=bW E.1;obtain⟨V,B⟩:=t2;simp only[aat]at J hl;have O:(if V=10/\cx t1 (aL (.mk V B) 0) then fO (.mk V B::s)else br 5)=(r,0):=D;split at O;rotate_left;cases O;rename_i c1;cases O;obtain⟨rfl,c2⟩:=c1;obtain⟨t,rfl,FW⟩:=dD (bw G.1) bn;have et:t1=t:=(eD _ _).1 c2;subst et;obtain⟨l,rfl,yF,U,Q⟩:=oT G.2.1 G.2.2;have ω:=H.2;have P:=E.2;simp only[aG,bf,aP,aav]at P;unfold bt;have e:aA 57 [] ⟨a,b,c,d,v :: .mk 10 0 0 [] l [] []::q,C,g,u,m,K⟩=(if 24<=l.length then(13,⟨a,b,c,d,q,C,g,u,m,K⟩)else bg ⟨a,b,c,d,q,C,g,u,m,K⟩ [.mk 10 0 0 [] (v::l) [] []]):=by unfold aA;rw[NO];rfl
 rw[e];have A:=f1.2;have W:aS (v::l) t1:=by simp[aS,A.1,U]
 have N:eo (v::l):=by simp[eo,A.2,Q]
 have ux:aG (.mk 10 0 0 [] (v::l) [] [])<=8589934593:=by simp only[aG,aH,bf,aP,aav];omega
 have x:∀(e:Int)(M:bM),cM 117 ⟨a,b,c,d,q,C,g,u,m,K⟩ [.c (aV (.mk 2 T 57 p [])),.c (.sl 7 (aa [v,.mk 10 0 0 [] l [] []]))] (ah e) M->cM 98 ⟨a,b,c,d,v :: .mk 10 0 0 [] l [] []::q,C,g,u,m,K⟩ [.c (aV (.mk 2 T 57 p []))] (ah e) M:=λe M h =>
  tZ _ _ 2 T 57 p _ [_,_] q _ bn (by rw[NO];rfl) (by show List.length (v::Vl.mk 10 0 0 [] l [] []::q)<=_;simp only[aat];omega) h
 obtain⟨o,j,i,f,Y,an,aB⟩:=v;by_cases h:24<=l.length;rw[if_pos h];exact⟨x _ _ (Rb ⟨a,b,c,d,q,C,g,u,m,K⟩ T p o j i f Y an aB 10 0 0 [] l [] [] h bT),.inr (.inr Z)⟩;rw[if_neg h];exact⟨x _ _ (Rc ⟨a,b,c,d,q,C,g,u,m,K⟩ T p o j i f Y an aB 10 0 0 [] l [] [] h ux bT),cu (S:=⟨a,b,c,d,q,C,g,u,m,K⟩) (eX (bK hg) (Dq ek W N)) hq⟩
def Ud(S A p F)(y:L (Γ->CR))(z s)(r:Γ×Bool)(hf:bB 59 F=some z)(I:dj s S.st)(E:s.length<=340)(M:r.1.all bA)(D:jc 59 y z s=(r,0)):bt A p 59 F S/\bV S r (aA 59 F S):=by
 obtain⟨a,b,c,d,st,C,g,u,m,K⟩:=S;obtain⟨rfl,rfl⟩:=cQ hf bn;have W:=bH I;simp only at I W;cases s with
 |nil=>cases D
 |cons t s =>
 obtain⟨v,q,rfl,J,x⟩:=aK I;have V:=bW J.1;obtain⟨T,f⟩:=t;simp only[aat]at W E;have O:(if T=6\/T=10\/T=13 then fO (.mk 4 []::s)else br 5)=(r,0):=D;split at O;rotate_left;cases O;rename_i G;cases O;have o:(vS v).length+(cP v).length<=200:=by
  rcases G with rfl|rfl|rfl
  obtain⟨P,rfl,j⟩:=AX V.2.1;simpa[vS,cP]using j;obtain⟨t,rfl,_⟩:=dD (bw V.1) bn;obtain⟨l,rfl,i,_,_⟩:=oT V.2.1 V.2.2;simp[vS,cP];omega;obtain⟨t,t',rfl,_,_⟩:=dr (bw V.1) bn;obtain⟨l,rfl,i,_,_,_⟩:=va V.2.1 V.2.2;simp[vS,cP];omega
 unfold bt;have e:aA 59 [] ⟨a,b,c,d,v::q,C,g,u,m,K⟩=bg ⟨a,b,c,d,q,C,g,u,m,K⟩ [aO 4 (((vS v).length+(cP v).length:Nat):Int)]:=by unfold aA;rw[NP];rfl
 rw[e];clear J V I D;obtain⟨U,Q,N,P,Y,H,B⟩:=v;simp only[vS,cP]at o ⊢;exact⟨tZ _ _ 2 A 59 p _ [_] q _ bn (by rw[NP];rfl) (by show List.length (Vl.mk U Q N P Y H B::q)<=_;simp only[aat];omega) (Ue ⟨a,b,c,d,q,C,g,u,m,K⟩ A p U Q N P Y H B ai bT),cu (S:=⟨a,b,c,d,q,C,g,u,m,K⟩) (eX (bK M) (kL bn gn (λ_=>by omega))) x⟩
def Re(S T p U)(P:L (Γ->CR))(Q s)(r:Γ×Bool)(hf:bB 61 U=some Q)(Y:dj s S.st)(E:s.length<=340)(N:r.1.all bA)(D:jc 61 P Q s=(r,0)):bt T p 61 U S/\bV S r (aA 61 U S):=by
 obtain⟨a,b,c,d,q,C,g,u,m,K⟩:=S;obtain⟨x,y,rfl,V,G,rfl⟩:=VQ hf bn;have W:=bH Y;simp only at Y W;have O:(if fZ (aM x).1=true then fO (.mk 13 [(aM x).1,(aM y).1]::s)else br 5)=(r,0):=D;split at O;rotate_left;cases O;cases O;unfold bt;have e:aA 61 [x,y] ⟨a,b,c,d,q,C,g,u,m,K⟩=bg ⟨a,b,c,d,q,C,g,u,m,K⟩ [.mk 13 0 0 [] [] [] []]:=by unfold aA;rw[NQ];rfl
 rw[e];exact⟨tZ _ _ 2 T 61 p _ [] q _ bn (by rw[NQ];rfl) bT (Rf ⟨a,b,c,d,q,C,g,u,m,K⟩ T p x y bT),cu (S:=⟨a,b,c,d,q,C,g,u,m,K⟩) (eX (bK N) (Dp bn Z Z Z)) Y⟩
def qG{x t u}(h:bJ x (.mk 11 [t,u])):∃y z,x=aU y z/\bJ y t/\bJ z u:=by
 obtain⟨k,n,a,s,Y,V,code⟩:=x;obtain⟨I,M,_⟩:=jn h;subst I;simp[cG]at M;simp[bJ,cG,cL,aQ]at h;obtain⟨rfl,rfl,rfl,rfl⟩:=M;rcases Y with _|⟨x,_|⟨y,_|⟨z,r⟩⟩⟩
 grind;grind;simp[dM]at h;exact⟨x,y,by rw[h.1];rfl,h.2.1,h.2.2⟩;grind
def AY(y z):ou (aU y z)=y:=rfl
def LI{t}(D:fZ t)(U:iS t=false){a b c}(V:bJ a t)(T:bJ b t)(B:bJ c t)(Y:ee a b<0)(W:ee b c<0):ee a c<0:=by obtain⟨_,_,_,_,g⟩:=AZ a b c t D U V T B;have:=g.1 ai ai;omega
def Uf{t u}(D:fZ t)(T:iS t=false):∀(l:Ξ)(x),aS (x::l) (.mk 11 [t,u])->Cu (x::l)->∀y∈l,ee (ou x) (ou y)<0
 |[],x,_,_,y,V=>by simp at V
 |z::r,x,hA,hu,y,V=>by
  simp only[aS,aaI]at hA;simp only[Cu,aaI,aiP]at hu;rcases List.mem_cons.1 V with rfl|Y
  omega;have S:=Uf D T r z (by simp only[aS,aaI];exact hA.2) (by simpa[Cu]using hu.2) y Y;obtain⟨Q,C,rfl,O,_⟩:=qG hA.1;obtain⟨N,B,rfl,P,_⟩:=qG hA.2.1;have W:=(eI (.mk 11 [t,u]) r).1 hA.2.2 y Y;obtain⟨G,M,rfl,U,_⟩:=qG W;exact LI D T O P U hu.1 S
def VR{t u}(D:fZ t)(U:iS t=false){k}(I:bJ k t):∀l,aS l (.mk 11 [t,u])->Cu l->∀(i) x,bY l k<=i->l[i]?=some x->¬ee (ou x) k<0
 |[],_,_,i,x,_,h=>by simp at h
 |z::l,hA,hu,i,x,hi,h=>by
  have W:bJ z (.mk 11 [t,u])/\aS l (.mk 11 [t,u]):=by simpa[aS]using hA
  have V:Cu l:=by
   cases l with
   |nil=>rfl
   |cons y r=>simp only[Cu,aaI]at hu;simpa[Cu]using hu.2
  by_cases P:ee (ou z) k<0
  ·simp only[bY,P,if_true]at hi;cases i with
   |zero=>omega
   |succ j=>exact VR D U I l W.2 V j x ai nu
  cases i with
  |zero=>simp at h;subst h;exact P
  |succ j =>
   have Y:=acm (show l[j]?=some x by simpa using h);have T:=Uf D U l z hA hu x Y;obtain⟨N,C,rfl,Q,_⟩:=qG W.1;obtain⟨M,B,rfl,S,_⟩:=qG ((eI (.mk 11 [t,u]) l).1 W.2 x Y);intro O;exact P (LI D U Q S I T O)
def I4{l t u k}(D:fZ t)(U:iS t=false)(P:aS l (.mk 11 [t,u]))(p:Cu l)(I:bJ k t)(E:l.length<=24)(Y:aH l<=1000000000):af 135 [.sl 7 (aa l),bz k] (.eK [ah (bY l k),.bool (fB l k)]):=by
 refine NR l k ai (λx O=>?_) (VR D U I l P p);obtain⟨y,z,rfl,V,_⟩:=qG ((eI (.mk 11 [t,u]) l).1 P x O);have T:=dV O;have S:aG y<=aG (aU y z):=by simp only[aU,aG,aH];omega
 exact KD (aU y z) k y t Z (qH y k t U V I ai)
def NS:bP 62=2:=by decide +kernel
def NT{t u}(h:bA (.mk 13 [t,u])):fZ t/\iS t=false:=by
 have Y:=B8 h;simp only[I5,aaI]at Y;have V:jG [t,u]:=by simpa using Y.1
 exact⟨by simpa[jG]using V,dP (jw (nw h)).2 (show t∈aQ (.mk 13 [t,u])by simp[aQ])⟩
def Xt(S T p F)(j:L (Γ->CR))(o s)(r:Γ×Bool)(hf:bB 62 F=some o)(I:dj s S.st)(hl:s.length<=340)(hg:r.1.all bA)(D:jc 62 j o s=(r,0)):bt T p 62 F S/\bV S r (aA 62 F S):=by
 obtain⟨a,b,c,d,st,C,g,u,m,K⟩:=S;obtain⟨rfl,rfl⟩:=cQ hf bn;have fY:=bH I;simp only at I fY;rcases s with _|⟨t1,_|⟨t2,s⟩⟩
 cases D;cases D;obtain⟨v,q0,rfl,hv,pR⟩:=aK I;obtain⟨w,q,rfl,hw,hq⟩:=aK pR;have f1:=bW hv.1;have G:=bW hw.1;obtain⟨U,E⟩:=t2;simp only[aat]at fY hl;have A:(if U=13/\cx t1 (aL (.mk U E) 0)/\jI (aL (.mk U E) 1) then fO (.mk 9 [aL (.mk U E) 1]::s)else br 5)=(r,0):=D;split at A;rotate_left;cases A;rename_i c1;obtain⟨rfl,c2,_⟩:=c1;obtain⟨t,t',rfl,FW,Q6⟩:=dr (bw G.1) bn;cases A;have et:t1=t:=(eD _ _).1 c2;subst et;obtain⟨l,rfl,yF,V,i,f⟩:=va G.2.1 G.2.2;have ω:=hw.2;simp only[aG,bf,aP,aav]at ω;have Ug:=NT G.1;have Q:=I4 Ug.1 Ug.2 V i f1.2.1 yF ai;unfold bt;have e:aA 62 [] ⟨a,b,c,d,v :: .mk 13 0 0 [] l [] []::q,C,g,u,m,K⟩=(if fB l v=true then bg ⟨a,b,c,d,q,C,g,u,m,K⟩ [cr [lV (cP (lV l (bY l v))) 1]]else bg ⟨a,b,c,d,q,C,g,u,m,K⟩ [cr []]):=by unfold aA;rw[NS];rfl
 rw[e];have hk:∀(e:Int)(S':bM),cM 117 ⟨a,b,c,d,q,C,g,u,m,K⟩ [.c (aV (.mk 2 T 62 p [])),.c (.sl 7 (aa [v,.mk 13 0 0 [] l [] []]))] (ah e) S'->cM 98 ⟨a,b,c,d,v :: .mk 13 0 0 [] l [] []::q,C,g,u,m,K⟩ [.c (aV (.mk 2 T 62 p []))] (ah e) S':=λe S' h =>
  tZ _ _ 2 T 62 p _ [_,_] q _ bn (by rw[NS];rfl) (by show List.length (v::Vl.mk 13 0 0 [] l [] []::q)<=_;simp only[aat];omega) h
 by_cases h:fB l v
 ·rw[if_pos h];have O:∃x,l[bY l v]?=some x:=by
   unfold fB at h;cases hh:l[bY l v]? with
   |none=>rw[hh]at h;cases h
   |some x=>exact⟨x,Z⟩
  obtain⟨x,O⟩:=O;have W:=acm O;obtain⟨y,z,rfl,hy,WI⟩:=qG ((eI _ l).1 V x W);rw[h]at Q;rw[aah O,show lV (cP (aU y z)) 1=z from rfl];have ψ:fE z:=by
   have:∀{l:Ξ}{x:Vl},eo l->x∈l->fE x:=by
    intro l
    induction l with
    |nil=>intro x _ h;simp at h
    |cons y l ih =>
     intro x h O;simp only[eo,aaI]at h;rcases List.mem_cons.1 O with rfl|O
     exact h.1;exact ih h.2 O
   have h1:=this f W;simp[aU,fE,eo]at h1;exact h1.2
  have Ph:=dV W;have YC:aG z<=aG (aU y z):=by simp only[aU,aG,aH];omega
  obtain⟨P,N,M,H,Y,J,B⟩:=v;exact⟨hk _ _ (Uh ⟨a,b,c,d,q,C,g,u,m,K⟩ T p P N M H Y J B 13 0 0 [] l [] [] (bY l (.mk P N M H Y J B)) Q y y z [] 11 0 0 [] [] O ai bT),cu (S:=⟨a,b,c,d,q,C,g,u,m,K⟩) (eX (bK hg) (kz ⟨WI,ψ⟩)) hq⟩
 rw[if_neg h];rw[show fB l v=false by simpa using h]at Q;obtain⟨P,N,M,H,Y,J,B⟩:=v;exact⟨hk _ _ (Ui ⟨a,b,c,d,q,C,g,u,m,K⟩ T p P N M H Y J B 13 0 0 [] l [] [] _ Q bT),cu (S:=⟨a,b,c,d,q,C,g,u,m,K⟩) (eX (bK hg) pH) hq⟩
def aax{t}(D:fZ t)(U:iS t=false){a b}(V:bJ a t)(Y:bJ b t)(h:¬ee a b<0)(C:ee a b≠0):ee b a<0:=by obtain⟨g,_⟩:=AZ a b b t D U V Y Y;omega
def wR{x y}{l:Ξ}(h:ee (ou x) (ou y)<0)(p:Cu (y::l)):Cu (x::y::l):=by rw[Cu];simp;exact⟨h,p⟩
def B9{x y}{l:Ξ}(p:Cu (x::y::l)):ee (ou x) (ou y)<0/\Cu (y::l):=by rw[Cu]at p;simpa only[aaI,aiP]using p
def Uj{t u}(D:fZ t)(Q:iS t=false){k}(I:bJ k t)(y):∀l,aS l (.mk 11 [t,u])->Cu l->fB l k=false->Cu (l.take (bY l k)++aU k y::l.drop (bY l k))
 |[],_,_,_=>rfl
 |x::l,hA,M,hf=>by
  have O:bJ x (.mk 11 [t,u])/\aS l (.mk 11 [t,u]):=by simpa[aS]using hA
  obtain⟨U,C,rfl,W,_⟩:=qG O.1;by_cases P:ee U k<0
  ·have Y:bY (aU U C::l) k=bY l k+1:=(by simp only[bY,AY,P,if_true]);have V:fB l k=false:=(by unfold fB at hf ⊢;simp_all);rw[Y];cases l with
   |nil=>exact wR (show ee U k<0 from P) Z
   |cons z r =>
    have S:=Uj D Q I y (z::r) O.2 (B9 M).2 V;have T:=(B9 M).1;generalize bY (z::r) k=i at S;cases i with
    |zero=>exact wR (show ee U k<0 from P) S
    |succ j=>exact wR T S
  have Y:bY (aU U C::l) k=0:=by simp only[bY,AY,P,aiQ]
  rw[Y];have A:ee U k≠0:=by unfold fB at hf;rw[Y]at hf;have N:decide (ee U k=0)=false:=hf;simp_all
  exact wR (show ee k U<0 from aax D Q W I P A) M
def Uk{t u}(D:fZ t)(U:iS t=false):∀l i,aS l (.mk 11 [t,u])->Cu l->Cu (l.take i++l.drop (i+1))
 |[],i,_,_=>by simp[Cu]
 |x::l,0,hA,V=>by
  cases l with
  |nil=>rfl
  |cons z r=>exact(B9 V).2
 |x::l,i+1,hA,V=>by
  have Y:bJ x (.mk 11 [t,u])/\aS l (.mk 11 [t,u]):=by simpa[aS]using hA
  cases l with
  |nil=>simp[Cu]
  |cons z r =>
   have S:=Uk D U (z::r) i Y.2 (B9 V).2;cases i with
   |zero =>
    cases r with
    |nil=>rfl
    |cons w r=>exact wR (Uf D U (z::w::r) x hA V w cS) S
   |succ j=>exact wR (B9 V).1 S
def VS{t u}(D:fZ t)(V:iS t=false){k}(P:bJ k t):∀l,aS l (.mk 11 [t,u])->Cu l->fB l k->bY (l.take (bY l k)++l.drop (bY l k+1)) k=bY l k/\fB (l.take (bY l k)++l.drop (bY l k+1)) k=false
 |[],_,_,hf=>by simp[fB]at hf
 |x::l,hA,F,hf=>by
  have T:bJ x (.mk 11 [t,u])/\aS l (.mk 11 [t,u]):=by simpa[aS]using hA
  obtain⟨U,C,rfl,W,_⟩:=qG T.1;have S:Cu l:=by
   cases l with
   |nil=>rfl
   |cons z r=>exact(B9 F).2
  by_cases N:ee U k<0
  ·have I:∀m:Ξ,bY (aU U C::m) k=bY m k+1:=λm=>by simp only[bY,AY,N,if_true]
   have Q:∀m:Ξ,fB (aU U C::m) k=fB m k:=λm=>by unfold fB;rw[I];rfl
   rw[Q]at hf;have H:=VS D V P l T.2 S hf;simp_all
  have I:bY (aU U C::l) k=0:=by simp only[bY,AY,N,aiQ]
  unfold fB at hf;rw[I]at hf;have A:ee U k=0:=ahG hf;have O:U=k:=(AZ U k k t D V W P P).zero.1 A;subst O;rw[I];show bY l U=0/\fB l U=false;cases l with
  |nil=>exact⟨Z,Z⟩
  |cons z r =>
   obtain⟨Y,B,rfl,M,_⟩:=qG ((eI _ _).1 T.2 z cS);have K:ee U Y<0:=(B9 F).1;have g:=AZ U Y Y t D V W M M;have J:ee Y U>0:=(by have:=g.neg;omega);have E:bY (aU Y B::r) U=0:=(by exact if_neg (show ¬ee Y U<0 by omega));refine⟨E,?_⟩;unfold fB;rw[E];show decide (ee Y U=0)=false;exact acf ai
mutual
def I8:∀(t:Ty)(d n W Y m:Int),W<=d->Y<=n->gA t d n=(true,m)->gA t W Y=(true,m-n+Y)
 |.mk T V,d,n,W,Y,m,A,I,h=>by
  simp only[gA]at h ⊢;by_cases c:d>24\/n+1>300\/arity T≠V.length;simp_all;rw[if_neg c]at h;have u:¬(W>24\/Y+1>300\/arity T≠V.length):=by omega
  rw[if_neg u];cases e:fy V (d+1) (n+1)with
  |mk b S =>
   rw[e]at h;cases b with
   |false=>cases h
   |true =>
    have U:=FX V (d+1) (n+1) (W+1) (Y+1) S ai ai e;grind
def FX:∀(l:Γ)(d n W Y m:Int),W<=d->Y<=n->fy l d n=(true,m)->fy l W Y=(true,m-n+Y)
 |[],d,n,W,Y,m,A,I,h=>by simp only[fy]at h ⊢;simp_all
 |t::l,d,n,W,Y,m,A,I,h=>by
  simp only[fy]at h ⊢;cases e:gA t d n with
  |mk b S =>
   rw[e]at h;cases b with
   |false=>cases h
   |true =>
    have V:=I8 t d n W Y S A I e;rw[V];have B:=FX l d S W (S-n+Y) m A ai h;grind
end
def Ru{t d n m}(h:gA t d n=(true,m)):n<=299/\n<m:=by
 have V:n<=299:=by obtain⟨T,Y⟩:=t;simp only[gA]at h;grind
 have U:=(wu t d n ai).1;simp_all
def I9:∀{l d n m x},fy l d n=(true,m)->0<=n->x∈l->∃U S,0<=U/\gA x d U=(true,S)
 |t::l,d,n,m,x,h,hn,O=>by
  simp only[fy]at h;cases e:gA t d n with
  |mk b S =>
   rw[e]at h;cases b with
   |false=>cases h
   |true =>
    rcases List.mem_cons.1 O with rfl|O
    grind;have:=(Ru e).2;exact I9 (l:=l) h ai O
def fQ{T}{Y:Γ}(h:bA (.mk T Y)):∀x∈Y,bA x:=by
 intro x O;unfold bA at h;simp only[gA]at h;split at h;cases h;cases e:fy Y (1+1) (0+1)with
 |mk b S =>
  rw[e]at h;cases b with
  |false=>cases h
  |true =>
   obtain⟨U,V,P,Q⟩:=I9 e ai O;have B:=I8 x _ U 1 0 V ai ai Q;unfold bA;rw[B]
def Ca{V:Γ}(h:bA (.mk 13 V)):bA (.mk 11 V):=by
 unfold bA at h ⊢;simp only[gA]at h ⊢;split at h;cases h;rename_i c;have Y:arity 13=2:=rfl;have W:arity 11=2:=rfl;rw[Y]at c;rw[W,if_neg c];cases e:fy V (1+1) (0+1)with
 |mk b S =>
  rw[e]at h;cases b with
  |false=>cases h
  |true=>rfl
def Rv{T n p s k d Y}(A:Y<=d)(h:iA T n p s k d=0):iA T n p s k Y=0:=by unfold iA at h ⊢;omega
mutual
def Ur:∀(n:Nd)(d Y:Int),Y<=d->fG n d=0->fG n Y=0
 |.mk T n p s V,d,Y,A,h=>by obtain⟨U,S⟩:=kY h;simp only[fG];rw[if_pos (Rv A U)];exact Ac V _ _ ai S
def Ac:∀(l:Θ)(d Y:Int),Y<=d->dJ l d=0->dJ l Y=0
 |[],_,_,_,_=>rfl
 |x::l,d,Y,A,h=>by simp only[dJ]at h ⊢;by_cases c:fG x d=0;rw[if_pos c]at h;rw[if_pos (Ur x d Y A c)];exact Ac l d Y A h;omega
end
def Ja:∀{l x d},dJ l d=0->x∈l->fG x d=0
 |y::l,x,d,h,O=>by
  simp only[dJ]at h;by_cases c:fG y d=0
  ·rw[if_pos c]at h;rcases List.mem_cons.1 O with rfl|O
   exact c;exact Ja h O
  omega
def LJ:∀{l x},x∈l->many x<=cV l
 |y::l,x,O=>by
  simp only[cV];rcases List.mem_cons.1 O with rfl|O
  omega;have:=LJ O;omega
def lg(code:Θ):Prop:=ey (.mk 3 0 0 [] code)=0
def A0{code}:lg code↔dJ code 2=0/\cV code<=299:=by unfold lg;rw[lF];simp only[many];constructor;rintro⟨Y,V⟩;exact⟨(kY Y).2,ai⟩;rintro⟨Y,V⟩;refine⟨?_,ai⟩;simp only[fG];exact Y
def om{code}(h:lg code):cV code<=299:=(A0.1 h).2
def Cb{code}(h:lg code):aP code<=60300:=by have:=Cc h;simp only[bE]at this;omega
def qk{code k N P}{S:Δ}{V:Θ}(h:lg code)(Y:Nd.mk k N P S V∈code):lg V/\cV V+1<=cV code:=by obtain⟨U,T⟩:=A0.1 h;have B:=(kY (Ja U Y)).2;have W:=LJ Y;simp only[many]at W;exact⟨A0.2 ⟨Ac _ _ _ ai B,ai⟩,W⟩
def PC{n}(h:ey n=0):lg (cw n):=by obtain⟨k,N,P,S,Y⟩:=n;obtain⟨V,U⟩:=lF.1 h;simp only[many]at U;exact A0.2 ⟨(kY V).2,by simp only[cw];omega⟩
def Ad(code:Θ)(s Y:Γ)(V:Bool):Prop:=bU code (s,false)=((Y,V),0)
def FT(V:Γ×Bool):List iH->Γ->Prop
 |[],s=>V=(s,false)
 |F::t,s=>s.length+cV F.code<=340/\lg F.code/\F.pos<=F.code.length/\∃Y U,Ad (F.code.drop F.pos) s Y U/\(U=false ->
   (F.fin=0/\FT V t Y) \/
   (F.fin=1/\F.aside.length<=1/\∃u,dj u F.aside.reverse/\FT V t (u++Y)) \/
   (F.fin=2/\F.aside.length<=340/\∃t0 u,Y=[t0]/\dj u F.aside.reverse/\FT V t (t0::u)) \/
   (F.fin=3/\∃e,(∀x∈F.aside,Fit e x)/\Y.length+1+cV F.code<=340/\(∃M C,Ad F.code (e::Y) M C/\(C=false->M=Y))/\FT V t Y) \/
   (F.fin=4/\∃a O,Y=a::O/\cL a=2/\O.length+cV F.code<=340/\(∃M C,Ad F.code O M C/\(C=false->M=a::O))/\FT V t O))
def frW(F:iH):Nat:=1+2*cV (F.code.drop F.pos)
def Bf:List iH->Nat
 |[]=>0
 |F::t=>frW F+Bf t
def Dt:∀t,t.length<=Bf t
 |[]=>acd _
 |F::t=>by have:=Dt t;simp only[aat,Bf,frW];omega
def nD{a b}{r:Γ×Bool}(h:cJ a b=(r,0)):a.2=0/\(a.1.2=false->r=a.1):=by unfold cJ at h;split at h;rename_i c;exact absurd (ahm Prod.snd h) c;rename_i G;simp at G;refine⟨G,λhf=>?_⟩;split at h;rename_i c;exact absurd (ahm Prod.snd h) c;rw[if_neg (by rw[hf];decide)]at h;split at h;simp_all;cases h
def nE{a b}{r:Γ×Bool}(h:cJ a b=(r,0)):b.2=0/\(b.1.2=false->r=b.1):=by unfold cJ at h;split at h;rename_i c;exact absurd (ahm Prod.snd h) c;split at h;rename_i c;exact absurd (ahm Prod.snd h) c;rename_i B u;simp at u;refine⟨u,λhf=>?_⟩;by_cases G:a.1.2;grind;rw[if_neg G]at h;split at h;rename_i c4;cases h;have e:=(lE _ _).1 (c4.resolve_left (by rw[hf];decide));grind;cases h
def rM{code s}(h:(bU code (s,false)).2=0):Ad code s (bU code (s,false)).1.1 (bU code (s,false)).1.2:=by unfold Ad;rw[<- h]
def N3{T C c p}{r:Γ×Bool}(U:(bU c (p,false)).2=0)(V:(bU c (p,false)).1.2=false->r=(bU c (p,false)).1)(E:p.length+cV c<=340)(Y:lg c)
  (h:r.2=false->FT T C r.1):FT T (⟨c,0,0,[]⟩::C) p:=by
 refine⟨E,Y,ahp _,(bU c (p,false)).1.1,(bU c (p,false)).1.2,rM U,λhf => .inl ⟨Z,?_⟩⟩;simp_all
def agz(Y:Γ×Bool)(S:bM)(r:Γ×Bool)(o:MR):Prop :=
 o.1=0/\∃F p,o.2.fr=F::S.fr/\lg F.code/\dj p o.2.st/\((r.2=false->FT Y S.fr r.1)->FT Y (F::S.fr) p)
def Comes(Y:Γ×Bool)(S:bM)(r:Γ×Bool)(o:MR):Prop:=bV S r o\/agz Y S r o\/aeP o
def Cd{P U V}(h:bB P U=some V)(Y:iq P=[99]):∃p q r c,U=[.mk 3 p q r c]/\V=[]:=by
 obtain⟨Q,S⟩:=l8 h;rw[Y]at Q S;rcases U with _|⟨x,_|⟨y,l⟩⟩
 grind;obtain⟨T,N,p,q,O⟩:=x;have B:(if T=3 then some []else none)=some V:=S;simp_all;grind
def ve{P O Q}(h:bB P O=some Q)(I:iq P=[99,99]):∃p q r c W V H K,O=[.mk 3 p q r c,.mk 3 W V H K]/\Q=[]:=by
 obtain⟨J,M⟩:=l8 h;rw[I]at J M;rcases O with _|⟨x,_|⟨y,_|⟨z,l⟩⟩⟩
 grind;grind;obtain⟨T,N,p,q,F⟩:=x;obtain⟨Y,S,W,V,U⟩:=y;have B:(if T=3 then(if Y=3 then some []else none)else none)=some Q:=M;simp_all;grind
def aaA{P E F}(h:bB P E=some F)(I:iq P=[116,116,99]):∃x y p q r c,E=[x,y,.mk 3 p q r c]/\(aM x).2=0/\(aM y).2=0/\F=[(aM x).1,(aM y).1]:=by
 obtain⟨A,D⟩:=l8 h;rw[I]at A D;rcases E with _|⟨x,_|⟨y,_|⟨z,_|⟨M,l⟩⟩⟩⟩
 grind;grind;grind;obtain⟨T,N,p,q,C⟩:=x;obtain⟨Y,U,S,Q,W⟩:=y;obtain⟨V,K,G,J,O⟩:=z;have B:(if(aM (.mk T N p q C)).2=0 then(if(aM (.mk Y U S Q W)).2=0 then(if V=3 then some ([]++[(aM (.mk T N p q C)).1]++[(aM (.mk Y U S Q W)).1])else none)else none)else none)=some F:=D;grind;grind
def Du:bP 52=1:=by decide +kernel
def GW:bP 55=1:=by decide +kernel
def Dv:bP 58=1:=by decide +kernel
def VT:bP 60=1:=by decide +kernel
def GX:bP 64=1:=by decide +kernel
def VU:bP 65=1:=by decide +kernel
def VV:bP 66=0:=by decide +kernel
def N4:bP 67=2:=by decide +kernel
def VW:bP 68=1:=by decide +kernel
def rq:∀{l x},eo l->x∈l->fE x
 |y::l,x,h,O=>by
  simp only[eo,aaI]at h;rcases List.mem_cons.1 O with rfl|O
  grind;exact rq h.2 O
def N5{v t u}(h:bJ v (.mk 14 [t,u]))(I:fE v):∃code,v = .mk 14 0 0 [] [] [t,u] code/\lg code/\(bU code ([t],false)).2=0/\((bU code ([t],false)).1.2=false->(bU code ([t],false)).1.1=[u])/\dH code=false:=by
 obtain⟨k,n,a,s,J,K,code⟩:=v;obtain⟨P,M,W⟩:=jn h;simp only[cL]at P;subst P;have V:K.length=2/\a=0/\n=0/\s=[]/\J.length=0:=by simpa[cG]using M
 obtain⟨U,rfl,rfl,rfl,T⟩:=V;obtain rfl:=List.length_eq_zero_iff.1 T;rcases K with _|⟨t1,_|⟨S,_|⟨N,q⟩⟩⟩
 omega;simp_all
 ·have F:(cx t t1&&cx u S):=by have B:=h;unfold bJ at B;simp only[cG,cL,aL,aQ]at B;simpa using B
  rw[aaI]at F;obtain rfl:=(eD _ _).1 F.1;obtain rfl:=(eD _ _).1 F.2;rw[Ia 14 0 0 [] [] t u code rfl]at I;simp at I;obtain⟨⟨G,Y⟩,Q⟩:=I;obtain⟨E,_,_,_,O⟩:=sr G;rw[O]at G Y;simp only[cw]at G Y;refine⟨code,Z,E,G,λhf=>?_,Q⟩;rcases Y with Y|Y
  grind;exact(lE _ _).1 Y
 simp_all
end Go.Proofs
