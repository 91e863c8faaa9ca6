/- Package run: -/
import Derived.Test.YteanleefnjknoaaGreatDoorRunU
set_option linter.defProp false
set_option linter.unusedVariables false
set_option linter.unusedSimpArgs false
namespace Go.Proofs
open Go.cK
def Co{P:Int}{J:L Nd}{B:L Ty}(h:bW P J=some B)(Y:gC P=[116]):∃x,J=[x]/\(aP x).2=0/\B=[(aP x).1]:=by
 obtain⟨h1,h2⟩:=kS h;rw[Y]at h1 h2;obtain⟨y,rfl⟩:=List.length_eq_one_iff.1 h1;obtain⟨T,N,p,q,x⟩:=y;have V:(if(aP (.mk T N p q x)).2=0 then some ([]++[(aP (.mk T N p q x)).1])else none)=some B:=h2;split at V
 ·simp_all
 ·cases V
def fU{t:Ty}{v:Vl}(G:bB t=true)(h:bL v t=true/\eP v=true):gH t v=true:=by
 unfold gH nG;rw[G,h.1,h.2];rfl
def cW{t:Ty}{v:Vl}(h:gH t v=true):bB t=true/\bL v t=true/\eP v=true:=by
 unfold gH nG at h;simp only[aai]at h;exact⟨h.1.1,h.1.2,h.2⟩
def bK{t:Ty}{s:L Ty}(h:(t::s).all bB=true):bB t=true:=by simp_all
def Nz{t:Ty}{s:L Ty}(h:(t::s).all bB=true):s.all bB=true:=by simp_all
def SA:cr 46=2:=by decide +kernel
def SB:cr 47=1:=by decide +kernel
def SC:cr 48=1:=by decide +kernel
def SD:cr 49=1:=by decide +kernel
def SE:cr 50=1:=by decide +kernel
def SF:cr 51=1:=by decide +kernel
def SG:cr 53=1:=by decide +kernel
def SH:cr 54=0:=by decide +kernel
def SI:cr 56=0:=by decide +kernel
def Qs(S:ct)(Y:Int)(T:L UInt8)(J:L Nd)(codes:L (L Ty->CR))(B s:L Ty)(r:L Ty×Bool)(hf:bW 46 J=some B)(G:ep s S.st)(E:s.length<=340)(p:r.1.all bB=true)(A:aX 46 codes B s=(r,0)):bh Y T 46 J S/\bY S r (aJ 46 J S):=by
 obtain⟨a,b,c,d,st,H,g,u,m,U⟩:=S;obtain⟨rfl,rfl⟩:=cQ hf bT;have W:=bP G;simp only at G W;rcases s with _|⟨O,_|⟨K,s⟩⟩
 ·cases A
 ·cases A
 obtain⟨v,D,rfl,M,V⟩:=bl G;obtain⟨w,q,rfl,N,hq⟩:=bl V;cases A;have P:=cW M.1;have Q:=cW N.1;have e:aJ 46 [] ⟨a,b,c,d,v::w::q,H,g,u,m,U⟩=bq ⟨a,b,c,d,q,H,g,u,m,U⟩ [bA v w]:=by unfold aJ;rw[SA];rfl
 unfold bh;rw[e]
 try simp only[aac]at W E
 exact⟨jE _ _ 2 Y 46 T _ [v,w] q _ bT (by rw[SA];rfl) (by show List.length (v::w::q)<=_;simp only[aac];omega) (PX ⟨a,b,c,d,q,H,g,u,m,U⟩ Y T v w (by have:=M.2;have:=N.2;simp only[bA,aM,aO,bz,aU,aad];omega) cc),cu (S:=⟨a,b,c,d,q,H,g,u,m,U⟩) (fU (bK p) (kO P.2 Q.2)) hq⟩
def KF(S:ct)(Y:Int)(A:L UInt8)(J:L Nd)(codes:L (L Ty->CR))(B s:L Ty)(r:L Ty×Bool)(hf:bW 47 J=some B)(G:ep s S.st)(E:s.length<=340)(p:r.1.all bB=true)(W:aX 47 codes B s=(r,0)):bh Y A 47 J S/\bY S r (aJ 47 J S):=by
 obtain⟨a,b,c,d,st,H,g,u,m,U⟩:=S;obtain⟨rfl,rfl⟩:=cQ hf bT;have V:=bP G;simp only at G V;cases s with
 |nil=>cases W
 |cons t s =>
 obtain⟨v,q,rfl,M,hq⟩:=bl G;have P:=cW M.1;have N:(if bS t=11 then eT (au t++s)else aR 5)=(r,0):=W;split at N;rotate_left
 ·cases N
 rename_i Q;obtain⟨T,ts⟩:=t;simp only[bS]at Q;subst Q;obtain⟨I,C,rfl,R1,X0⟩:=fz (cH P.1) bT;obtain⟨x,y,rfl,O,K⟩:=tF P.2.1 P.2.2;cases N;have D:=M.2;simp only[bA,aM,aO,bz,aU,aad]at D;have e:aJ 47 [] ⟨a,b,c,d,bA x y::q,H,g,u,m,U⟩=bq ⟨a,b,c,d,q,H,g,u,m,U⟩ [y,x]:=by unfold aJ;rw[SB];rfl
 unfold bh;rw[e]
 try simp only[aac]at V E
 exact⟨jE _ _ 2 Y 47 A _ [bA x y] q _ bT (by rw[SB];rfl) EH (P2 ⟨a,b,c,d,q,H,g,u,m,U⟩ Y A 11 0 0 [] x y [] [] bn bn cc),Kv (S:=⟨a,b,c,d,q,H,g,u,m,U⟩) (fU (bK p) O) (fU (bK (Nz p)) K) hq⟩
def T0(S:ct)(Y:Int)(A:L UInt8)(J:L Nd)(codes:L (L Ty->CR))(B s:L Ty)(r:L Ty×Bool)(hf:bW 48 J=some B)(G:ep s S.st)(E:s.length<=340)(p:r.1.all bB=true)(W:aX 48 codes B s=(r,0)):bh Y A 48 J S/\bY S r (aJ 48 J S):=by
 obtain⟨a,b,c,d,st,H,g,u,m,U⟩:=S;obtain⟨rfl,rfl⟩:=cQ hf bT;have V:=bP G;simp only at G V;cases s with
 |nil=>cases W
 |cons t s =>
 obtain⟨v,q,rfl,M,hq⟩:=bl G;have P:=cW M.1;have N:(if bS t=11 then eT (aE t 0::s)else aR 5)=(r,0):=W;split at N;rotate_left
 ·cases N
 rename_i Q;obtain⟨T,ts⟩:=t;simp only[bS]at Q;subst Q;obtain⟨K,I,rfl,C,X0⟩:=fz (cH P.1) bT;obtain⟨x,y,rfl,O,hy⟩:=tF P.2.1 P.2.2;cases N;have D:=M.2;simp only[bA,aM,aO,bz,aU,aad]at D;have e:aJ 48 [] ⟨a,b,c,d,bA x y::q,H,g,u,m,U⟩=bq ⟨a,b,c,d,q,H,g,u,m,U⟩ [x]:=by unfold aJ;rw[SC];rfl
 unfold bh;rw[e]
 try simp only[aac]at V E
 exact⟨jE _ _ 2 Y 48 A _ [bA x y] q _ bT (by rw[SC];rfl) EH (P3 ⟨a,b,c,d,q,H,g,u,m,U⟩ Y A 11 0 0 [] x y [] [] bn cc),cu (S:=⟨a,b,c,d,q,H,g,u,m,U⟩) (fU (bK p) O) hq⟩
def T4(S:ct)(Y:Int)(A:L UInt8)(J:L Nd)(codes:L (L Ty->CR))(B s:L Ty)(r:L Ty×Bool)(hf:bW 49 J=some B)(G:ep s S.st)(E:s.length<=340)(p:r.1.all bB=true)(W:aX 49 codes B s=(r,0)):bh Y A 49 J S/\bY S r (aJ 49 J S):=by
 obtain⟨a,b,c,d,st,H,g,u,m,U⟩:=S;obtain⟨rfl,rfl⟩:=cQ hf bT;have V:=bP G;simp only at G V;cases s with
 |nil=>cases W
 |cons t s =>
 obtain⟨v,q,rfl,M,hq⟩:=bl G;have P:=cW M.1;have N:(if bS t=11 then eT (aE t 1::s)else aR 5)=(r,0):=W;split at N;rotate_left
 ·cases N
 rename_i Q;obtain⟨T,ts⟩:=t;simp only[bS]at Q;subst Q;obtain⟨K,I,rfl,C,X0⟩:=fz (cH P.1) bT;obtain⟨x,y,rfl,hx,O⟩:=tF P.2.1 P.2.2;cases N;have D:=M.2;simp only[bA,aM,aO,bz,aU,aad]at D;have e:aJ 49 [] ⟨a,b,c,d,bA x y::q,H,g,u,m,U⟩=bq ⟨a,b,c,d,q,H,g,u,m,U⟩ [y]:=by unfold aJ;rw[SD];rfl
 unfold bh;rw[e]
 try simp only[aac]at V E
 exact⟨jE _ _ 2 Y 49 A _ [bA x y] q _ bT (by rw[SD];rfl) EH (P4 ⟨a,b,c,d,q,H,g,u,m,U⟩ Y A 11 0 0 [] x y [] [] bn cc),cu (S:=⟨a,b,c,d,q,H,g,u,m,U⟩) (fU (bK p) O) hq⟩
def Qu(S:ct)(Y:Int)(T:L UInt8)(J:L Nd)(codes:L (L Ty->CR))(B s:L Ty)(r:L Ty×Bool)(hf:bW 53 J=some B)(G:ep s S.st)(E:s.length<=340)(p:r.1.all bB=true)(A:aX 53 codes B s=(r,0)):bh Y T 53 J S/\bY S r (aJ 53 J S):=by
 obtain⟨a,b,c,d,st,H,g,u,m,U⟩:=S;obtain⟨rfl,rfl⟩:=cQ hf bT;have W:=bP G;simp only at G W;cases s with
 |nil=>cases A
 |cons t s =>
 obtain⟨v,q,rfl,M,hq⟩:=bl G;cases A;have P:=cW M.1;have e:aJ 53 [] ⟨a,b,c,d,v::q,H,g,u,m,U⟩=bq ⟨a,b,c,d,q,H,g,u,m,U⟩ [cG [v]]:=by unfold aJ;rw[SG];rfl
 unfold bh;rw[e]
 try simp only[aac]at W E
 exact⟨jE _ _ 2 Y 53 T _ [v] q _ bT (by rw[SG];rfl) ot (P0 ⟨a,b,c,d,q,H,g,u,m,U⟩ Y T v Nf cc),cu (S:=⟨a,b,c,d,q,H,g,u,m,U⟩) (fU (bK p) (jw P.2)) hq⟩
def Qt(S:ct)(Y:Int)(T:L UInt8)(J:L Nd)(codes:L (L Ty->CR))(B s:L Ty)(r:L Ty×Bool)(hf:bW 50 J=some B)(G:ep s S.st)(E:s.length<=340)(p:r.1.all bB=true)(A:aX 50 codes B s=(r,0)):bh Y T 50 J S/\bY S r (aJ 50 J S):=by
 obtain⟨a,b,c,d,st,H,g,u,m,U⟩:=S;obtain⟨x,rfl,O,rfl⟩:=Co hf bT;have W:=bP G;simp only at G W;cases s with
 |nil=>cases A
 |cons t s =>
 obtain⟨v,q,rfl,M,hq⟩:=bl G;cases A;have P:=cW M.1;have e:aJ 50 [x] ⟨a,b,c,d,v::q,H,g,u,m,U⟩=bq ⟨a,b,c,d,q,H,g,u,m,U⟩ [.mk 12 (50-50) 0 [] [v] [] []]:=by unfold aJ;rw[SE];rfl
 unfold bh;rw[e]
 try simp only[aac]at W E
 exact⟨jE _ _ 2 Y 50 T _ [v] q _ bT (by rw[SE];rfl) ot (PY ⟨a,b,c,d,q,H,g,u,m,U⟩ Y T x v Nf cc),cu (S:=⟨a,b,c,d,q,H,g,u,m,U⟩) (fU (bK p) (Zy P.2)) hq⟩
def N0(S:ct)(Y:Int)(T:L UInt8)(J:L Nd)(codes:L (L Ty->CR))(B s:L Ty)(r:L Ty×Bool)(hf:bW 51 J=some B)(G:ep s S.st)(E:s.length<=340)(p:r.1.all bB=true)(A:aX 51 codes B s=(r,0)):bh Y T 51 J S/\bY S r (aJ 51 J S):=by
 obtain⟨a,b,c,d,st,H,g,u,m,U⟩:=S;obtain⟨x,rfl,O,rfl⟩:=Co hf bT;have W:=bP G;simp only at G W;cases s with
 |nil=>cases A
 |cons t s =>
 obtain⟨v,q,rfl,M,hq⟩:=bl G;cases A;have P:=cW M.1;have e:aJ 51 [x] ⟨a,b,c,d,v::q,H,g,u,m,U⟩=bq ⟨a,b,c,d,q,H,g,u,m,U⟩ [.mk 12 (51-50) 0 [] [v] [] []]:=by unfold aJ;rw[SF];rfl
 unfold bh;rw[e]
 try simp only[aac]at W E
 exact⟨jE _ _ 2 Y 51 T _ [v] q _ bT (by rw[SF];rfl) ot (PZ ⟨a,b,c,d,q,H,g,u,m,U⟩ Y T x v Nf cc),cu (S:=⟨a,b,c,d,q,H,g,u,m,U⟩) (fU (bK p) (Zz P.2)) hq⟩
def Qv(S:ct)(Y:Int)(T:L UInt8)(J:L Nd)(codes:L (L Ty->CR))(B s:L Ty)(r:L Ty×Bool)(hf:bW 54 J=some B)(G:ep s S.st)(E:s.length<=340)(p:r.1.all bB=true)(A:aX 54 codes B s=(r,0)):bh Y T 54 J S/\bY S r (aJ 54 J S):=by
 obtain⟨a,b,c,d,st,H,g,u,m,U⟩:=S;obtain⟨x,rfl,O,rfl⟩:=Co hf bT;have W:=bP G;simp only at G W;cases A;have e:aJ 54 [x] ⟨a,b,c,d,st,H,g,u,m,U⟩=bq ⟨a,b,c,d,st,H,g,u,m,U⟩ [cG []]:=by unfold aJ;rw[SH];rfl
 unfold bh;rw[e]
 try simp only[aac]at W E
 exact⟨jE _ _ 2 Y 54 T _ [] st _ bT (by rw[SH];rfl) WV (P1 ⟨a,b,c,d,st,H,g,u,m,U⟩ Y T x bT WV),cu (S:=⟨a,b,c,d,st,H,g,u,m,U⟩) (fU (bK p) nW) G⟩
def T5(S:ct)(Y:Int)(T:L UInt8)(J:L Nd)(codes:L (L Ty->CR))(B s:L Ty)(r:L Ty×Bool)(hf:bW 56 J=some B)(G:ep s S.st)(E:s.length<=340)(p:r.1.all bB=true)(A:aX 56 codes B s=(r,0)):bh Y T 56 J S/\bY S r (aJ 56 J S):=by
 obtain⟨a,b,c,d,st,H,g,u,m,U⟩:=S;obtain⟨x,rfl,O,rfl⟩:=Co hf bT;have W:=bP G;simp only at G W;cases A;have e:aJ 56 [x] ⟨a,b,c,d,st,H,g,u,m,U⟩=bq ⟨a,b,c,d,st,H,g,u,m,U⟩ [.mk 10 0 0 [] [] [] []]:=by unfold aJ;rw[SI];rfl
 unfold bh;rw[e]
 try simp only[aac]at W E
 exact⟨jE _ _ 2 Y 56 T _ [] st _ bT (by rw[SI];rfl) WV (TL ⟨a,b,c,d,st,H,g,u,m,U⟩ Y T x bT WV),cu (S:=⟨a,b,c,d,st,H,g,u,m,U⟩) (fU (bK p) (F9 bT Z Z)) G⟩
def Ef:cr 69=2:=by decide +kernel
def sC:cr 70=2:=by decide +kernel
def Eg:cr 71=2:=by decide +kernel
def lA:cr 72=2:=by decide +kernel
def SJ:cr 93=1:=by decide +kernel
def Eh:cr 94=1:=by decide +kernel
def SK:cr 95=1:=by decide +kernel
def iD{n:Int}:vO n=true ↔ -bN<=n/\n<=bN:=by
 unfold vO bN;simp;try omega
def kN{T n:Int}{ts:L Ty}(V:T=3\/T=4\/T=5)(h:bL (aQ T n) (.mk T ts)=true):(-bN<=n/\n<=bN)/\(T≠3->0<=n):=by
 obtain⟨_,Y,S,K,_⟩:=Qe h;rcases V with rfl|rfl|rfl
 ·omega
 ·omega
 ·omega
def jD{T n:Int}(V:T=3\/T=4\/T=5)(h : -bN<=n/\n<=bN)(Q:T≠3->0<=n):bL (aQ T n) (.mk T [])=true/\eP (aQ T n)=true:=by
 rcases V with rfl|rfl|rfl
 ·exact nV (.inr (.inl ⟨Z,h⟩))
 ·exact nV (.inr (.inr (.inl ⟨Z,Q bT,h.2⟩)))
 ·exact nV (.inr (.inr (.inr (.inl ⟨Z,Q bT,h.2⟩))))
def Ei{P a b:Int}(h:¬oq P a b=0):(a=5/\b=5/\(P=69\/P=70\/P=72))\/(P=71/\(a=5/\b=4\/a=4/\b=5))\/(P=72/\a=5/\b=4)\/((a=3\/a=4)/\(b=3\/b=4)):=by
 unfold oq at h;by_cases u:a=5/\b=5/\(P=69\/P=70\/P=72)
 ·exact .inl u
 rw[if_neg u]at h;by_cases H:P=71/\(a=5/\b=4\/a=4/\b=5)
 ·exact .inr (.inl H)
 rw[if_neg H]at h;by_cases p:P=72/\a=5/\b=4
 ·exact .inr (.inr (.inl p))
 rw[if_neg p]at h;by_cases c4:(a=3\/a=4)/\(b=3\/b=4)
 ·exact .inr (.inr (.inr c4))
 ·rw[if_neg c4]at h;exact absurd Z h
def Od(P a b:Int)(G:P=69\/P=71)(h:¬oq P a b=0):ofM P a b=oq P a b/\(oq P a b=3\/oq P a b=4\/oq P a b=5)/\(a=3\/a=4\/a=5)/\(b=3\/b=4\/b=5)/\(oq P a b≠3->a≠3/\b≠3):=by
 rcases Ei h with ⟨rfl,rfl,h1⟩|⟨h1,⟨rfl,rfl⟩|⟨rfl,rfl⟩⟩|⟨h1,rfl,rfl⟩|⟨rfl|rfl,rfl|rfl⟩<;>rcases G with rfl|rfl<;>first|decide|omega
def TQ(S:ct)(P:Int)(A:L UInt8)(J:L Nd)(B s:L Ty)(r:L Ty×Bool)(hf:bW 69 J=some B)(G:ep s S.st)(p:s.length<=340)(hg:r.1.all bB=true)(N:bX 69 s=(r,0)):bh P A 69 J S/\bY S r (aJ 69 J S):=by
 obtain⟨a,b,c,d,st,H,g,u,m,U⟩:=S;obtain⟨rfl,rfl⟩:=cQ hf bT;have E:=bP G;simp only at G E;rcases s with _|⟨t1,_|⟨t2,s⟩⟩
 ·cases N
 ·cases N
 obtain⟨v,q0,rfl,hv,pV⟩:=bl G;obtain⟨w,q,rfl,hw,hq⟩:=bl pV;have f1:=cW hv.1;have f2:=cW hw.1;obtain⟨O,IB⟩:=t1;obtain⟨Y,D1⟩:=t2;have M:(if oq 69 O Y=0 then aR 5 else eT (.mk (oq 69 O Y) []::s))=(r,0):=N;split at M
 ·cases M
 rename_i c1;cases M;have V:=Od 69 O Y bT c1;obtain⟨W,rfl,g1⟩:=gl (by have:=V.2.2.1;omega) f1.2.1;obtain⟨D,rfl,g2⟩:=gl (by have:=V.2.2.2.1;omega) f2.2.1;have K:=kN V.2.2.1 g1;have I:=kN V.2.2.2.1 g2;simp only[aac]at E p;unfold bh;by_cases T:vO (W+D)=true
 ·have Q:vg W D=(W+D,0):=by unfold vg;rw[if_pos ⟨iD.2 K.1,iD.2 I.1⟩];unfold mB;rw[if_pos T]
  have e:aJ 69 [] ⟨a,b,c,d,aQ O W::aQ Y D::q,H,g,u,m,U⟩=bq ⟨a,b,c,d,q,H,g,u,m,U⟩ [aQ (ofM 69 O Y) (W+D)]:=by
   unfold aJ;rw[Ef];show(if(vg W D).2≠0 then(((vg W D).2,⟨a,b,c,d,q,H,g,u,m,U⟩):MR)else bq ⟨a,b,c,d,q,H,g,u,m,U⟩ [aQ (ofM 69 O Y) (vg W D).1])=_;rw[Q];rfl
  rw[e]
  exact⟨eE _ _ 2 P 69 A _ [aQ O W,aQ Y D] q _ bT (by rw[Ef];rfl) fM (Hz ⟨a,b,c,d,q,H,g,u,m,U⟩ O W 0 [] [] [] [] Y D 0 [] [] [] [] (W+D) Q cc),
   cu (S:=⟨a,b,c,d,q,H,g,u,m,U⟩) (fU (bK hg) (by rw[V.1];exact jD V.2.1 (iD.1 T) (λC=>by have:=V.2.2.2.2 C;have:=K.2 this.1;have:=I.2 (V.2.2.2.2 C).2;omega))) hq⟩
 ·have Q:vg W D=(0,11):=by unfold vg;rw[if_pos ⟨iD.2 K.1,iD.2 I.1⟩];unfold mB;rw[if_neg T]
  have e:aJ 69 [] ⟨a,b,c,d,aQ O W::aQ Y D::q,H,g,u,m,U⟩=(11,⟨a,b,c,d,q,H,g,u,m,U⟩):=by
   unfold aJ;rw[Ef];show(if(vg W D).2≠0 then(((vg W D).2,⟨a,b,c,d,q,H,g,u,m,U⟩):MR)else bq ⟨a,b,c,d,q,H,g,u,m,U⟩ [aQ (ofM 69 O Y) (vg W D).1])=_;rw[Q];rfl
  rw[e];exact⟨eE _ _ 2 P 69 A _ [aQ O W,aQ Y D] q _ bT (by rw[Ef];rfl) fM (Gi ⟨a,b,c,d,q,H,g,u,m,U⟩ O W 0 [] [] [] [] Y D 0 [] [] [] [] 0 11 bT Q cc),.inr (.inl Z)⟩
def TS(S:ct)(P:Int)(A:L UInt8)(J:L Nd)(B s:L Ty)(r:L Ty×Bool)(hf:bW 71 J=some B)(G:ep s S.st)(p:s.length<=340)(hg:r.1.all bB=true)(N:bX 71 s=(r,0)):bh P A 71 J S/\bY S r (aJ 71 J S):=by
 obtain⟨a,b,c,d,st,H,g,u,m,U⟩:=S;obtain⟨rfl,rfl⟩:=cQ hf bT;have E:=bP G;simp only at G E;rcases s with _|⟨t1,_|⟨t2,s⟩⟩
 ·cases N
 ·cases N
 obtain⟨v,q0,rfl,hv,pV⟩:=bl G;obtain⟨w,q,rfl,hw,hq⟩:=bl pV;have f1:=cW hv.1;have f2:=cW hw.1;obtain⟨O,IB⟩:=t1;obtain⟨Y,D1⟩:=t2;have M:(if oq 71 O Y=0 then aR 5 else eT (.mk (oq 71 O Y) []::s))=(r,0):=N;split at M
 ·cases M
 rename_i c1;cases M;have V:=Od 71 O Y bT c1;obtain⟨W,rfl,g1⟩:=gl (by have:=V.2.2.1;omega) f1.2.1;obtain⟨D,rfl,g2⟩:=gl (by have:=V.2.2.2.1;omega) f2.2.1;have K:=kN V.2.2.1 g1;have I:=kN V.2.2.2.1 g2;simp only[aac]at E p;unfold bh;by_cases T:vO (W*D)=true
 ·have Q:sU W D=(W*D,0):=by unfold sU;rw[if_pos ⟨iD.2 K.1,iD.2 I.1⟩];unfold mB;rw[if_pos T]
  have e:aJ 71 [] ⟨a,b,c,d,aQ O W::aQ Y D::q,H,g,u,m,U⟩=bq ⟨a,b,c,d,q,H,g,u,m,U⟩ [aQ (ofM 71 O Y) (W*D)]:=by
   unfold aJ;rw[Eg];show(if(sU W D).2≠0 then(((sU W D).2,⟨a,b,c,d,q,H,g,u,m,U⟩):MR)else bq ⟨a,b,c,d,q,H,g,u,m,U⟩ [aQ (ofM 71 O Y) (sU W D).1])=_;rw[Q];rfl
  rw[e]
  exact⟨eE _ _ 2 P 71 A _ [aQ O W,aQ Y D] q _ bT (by rw[Eg];rfl) fM (HA ⟨a,b,c,d,q,H,g,u,m,U⟩ O W 0 [] [] [] [] Y D 0 [] [] [] [] (W*D) Q cc),
   cu (S:=⟨a,b,c,d,q,H,g,u,m,U⟩) (fU (bK hg) (by rw[V.1];exact jD V.2.1 (iD.1 T) (λC=>Int.mul_nonneg (K.2 (V.2.2.2.2 C).1) (I.2 (V.2.2.2.2 C).2)))) hq⟩
 ·have Q:sU W D=(0,11):=by unfold sU;rw[if_pos ⟨iD.2 K.1,iD.2 I.1⟩];unfold mB;rw[if_neg T]
  have e:aJ 71 [] ⟨a,b,c,d,aQ O W::aQ Y D::q,H,g,u,m,U⟩=(11,⟨a,b,c,d,q,H,g,u,m,U⟩):=by
   unfold aJ;rw[Eg];show(if(sU W D).2≠0 then(((sU W D).2,⟨a,b,c,d,q,H,g,u,m,U⟩):MR)else bq ⟨a,b,c,d,q,H,g,u,m,U⟩ [aQ (ofM 71 O Y) (sU W D).1])=_;rw[Q];rfl
  rw[e];exact⟨eE _ _ 2 P 71 A _ [aQ O W,aQ Y D] q _ bT (by rw[Eg];rfl) fM (Gj ⟨a,b,c,d,q,H,g,u,m,U⟩ O W 0 [] [] [] [] Y D 0 [] [] [] [] 0 11 bT Q cc),.inr (.inl Z)⟩
def TU(S:ct)(W:Int)(A:L UInt8)(J:L Nd)(B s:L Ty)(r:L Ty×Bool)(hf:bW 93 J=some B)(Y:ep s S.st)(E:s.length<=340)(G:r.1.all bB=true)(V:bX 93 s=(r,0)):bh W A 93 J S/\bY S r (aJ 93 J S):=by
 obtain⟨a,b,c,d,st,H,g,u,m,U⟩:=S;obtain⟨rfl,rfl⟩:=cQ hf bT;have Q:=bP Y;simp only at Y Q;cases s with
 |nil=>cases V
 |cons t s =>
 obtain⟨v,q,rfl,M,hq⟩:=bl Y;have K:=cW M.1;obtain⟨T,ts⟩:=t;simp only[aac]at Q E;have N:(if T=3 then eT (.mk 4 []::s)else aR 5)=(r,0):=V;split at N;rotate_left
 ·cases N
 rename_i I;subst I;cases N;obtain⟨n,rfl,g1⟩:=gl bT K.2.1;have P:=kN bT g1;unfold bh;have O:oz n=(if n<0 then -n else n,0):=by unfold oz;rw[if_pos (iD.2 P.1)]
 have e:aJ 93 [] ⟨a,b,c,d,aQ 3 n::q,H,g,u,m,U⟩=bq ⟨a,b,c,d,q,H,g,u,m,U⟩ [aQ 4 (oz n).1]:=by unfold aJ;rw[SJ];rfl
 rw[e];exact⟨eE _ _ 2 W 93 A _ [aQ 3 n] q _ bT (by rw[SJ];rfl) j0 (QI ⟨a,b,c,d,q,H,g,u,m,U⟩ 3 n 0 [] [] [] [] cc),cu (S:=⟨a,b,c,d,q,H,g,u,m,U⟩) (fU (bK G) (jD bT (by rw[O];have:=P.1;show _<=(if n<0 then -n else n)/\(if n<0 then -n else n)<=_;split<;>constructor<;>(unfold bN at *;omega)) (λ_=>by rw[O];show 0<=(if n<0 then -n else n);split<;>omega))) hq⟩
def TV(S:ct)(Y:Int)(A:L UInt8)(J:L Nd)(B s:L Ty)(r:L Ty×Bool)(hf:bW 94 J=some B)(G:ep s S.st)(E:s.length<=340)(p:r.1.all bB=true)(W:bX 94 s=(r,0)):bh Y A 94 J S/\bY S r (aJ 94 J S):=by
 obtain⟨a,b,c,d,st,H,g,u,m,U⟩:=S;obtain⟨rfl,rfl⟩:=cQ hf bT;have V:=bP G;simp only at G V;cases s with
 |nil=>cases W
 |cons t s =>
 obtain⟨v,q,rfl,M,hq⟩:=bl G;have P:=cW M.1;obtain⟨T,ts⟩:=t;simp only[aac]at V E;have N:(if T=3 then eT (.mk 9 [.mk 4 []]::s)else aR 5)=(r,0):=W;split at N;rotate_left
 ·cases N
 rename_i O;subst O;cases N;obtain⟨n,rfl,g1⟩:=gl bT P.2.1;have K:=kN bT g1;unfold bh;by_cases Q:n<0
 ·have e:aJ 94 [] ⟨a,b,c,d,aQ 3 n::q,H,g,u,m,U⟩=bq ⟨a,b,c,d,q,H,g,u,m,U⟩ [cG []]:=by
   unfold aJ;rw[Eh];show(if n<0 then bq ⟨a,b,c,d,q,H,g,u,m,U⟩ [cG []]else bq ⟨a,b,c,d,q,H,g,u,m,U⟩ [cG [aQ 4 n]])=_;rw[if_pos Q]
  rw[e];exact⟨eE _ _ 2 Y 94 A _ [aQ 3 n] q _ bT (by rw[Eh];rfl) j0 (N5 ⟨a,b,c,d,q,H,g,u,m,U⟩ 3 n 0 [] [] [] [] Q cc),cu (S:=⟨a,b,c,d,q,H,g,u,m,U⟩) (fU (bK p) nW) hq⟩
 ·have e:aJ 94 [] ⟨a,b,c,d,aQ 3 n::q,H,g,u,m,U⟩=bq ⟨a,b,c,d,q,H,g,u,m,U⟩ [cG [aQ 4 n]]:=by
   unfold aJ;rw[Eh];show(if n<0 then bq ⟨a,b,c,d,q,H,g,u,m,U⟩ [cG []]else bq ⟨a,b,c,d,q,H,g,u,m,U⟩ [cG [aQ 4 n]])=_;rw[if_neg Q]
  rw[e];exact⟨eE _ _ 2 Y 94 A _ [aQ 3 n] q _ bT (by rw[Eh];rfl) j0 (N6 ⟨a,b,c,d,q,H,g,u,m,U⟩ 3 n 0 [] [] [] [] Q cc),cu (S:=⟨a,b,c,d,q,H,g,u,m,U⟩) (fU (bK p) (jw (jD bT K.1 (λ_=>by omega)))) hq⟩
def TW(S:ct)(W:Int)(A:L UInt8)(J:L Nd)(B s:L Ty)(r:L Ty×Bool)(hf:bW 95 J=some B)(Y:ep s S.st)(E:s.length<=340)(G:r.1.all bB=true)(V:bX 95 s=(r,0)):bh W A 95 J S/\bY S r (aJ 95 J S):=by
 obtain⟨a,b,c,d,st,H,g,u,m,U⟩:=S;obtain⟨rfl,rfl⟩:=cQ hf bT;have Q:=bP Y;simp only at Y Q;cases s with
 |nil=>cases V
 |cons t s =>
 obtain⟨v,q,rfl,M,hq⟩:=bl Y;have P:=cW M.1;obtain⟨T,ts⟩:=t;simp only[aac]at Q E;have N:(if T=4 then eT (.mk 3 []::s)else aR 5)=(r,0):=V;split at N;rotate_left
 ·cases N
 rename_i O;subst O;cases N;obtain⟨n,rfl,g1⟩:=gl bT P.2.1;have K:=kN bT g1;unfold bh;have e:aJ 95 [] ⟨a,b,c,d,aQ 4 n::q,H,g,u,m,U⟩=bq ⟨a,b,c,d,q,H,g,u,m,U⟩ [aQ 3 n]:=by unfold aJ;rw[SK];rfl
 rw[e];exact⟨eE _ _ 2 W 95 A _ [aQ 4 n] q _ bT (by rw[SK];rfl) (by show List.length (aQ 4 n::q)<=_;simp only[aac];omega) (QJ ⟨a,b,c,d,q,H,g,u,m,U⟩ 4 n 0 [] [] [] [] cc),cu (S:=⟨a,b,c,d,q,H,g,u,m,U⟩) (fU (bK G) (jD bT K.1 (λh=>absurd Z h))) hq⟩
def TR(S:ct)(P:Int)(A:L UInt8)(J:L Nd)(B s:L Ty)(r:L Ty×Bool)(hf:bW 70 J=some B)(G:ep s S.st)(hl:s.length<=340)(K:r.1.all bB=true)(I:bX 70 s=(r,0)):bh P A 70 J S/\bY S r (aJ 70 J S):=by
 obtain⟨a,b,c,d,st,H,g,u,m,U⟩:=S;obtain⟨rfl,rfl⟩:=cQ hf bT;have E:=bP G;simp only at G E;rcases s with _|⟨t1,_|⟨t2,s⟩⟩
 ·cases I
 ·cases I
 obtain⟨v,q0,rfl,hv,pV⟩:=bl G;obtain⟨w,q,rfl,hw,hq⟩:=bl pV;have f1:=cW hv.1;have f2:=cW hw.1;obtain⟨O,IB⟩:=t1;obtain⟨Y,D1⟩:=t2;simp only[aac]at E hl;have N:(if oq 70 O Y=0 then aR 5 else if(70:Int)=70/\oq 70 O Y=5 then eT (.mk 9 [.mk 5 []]::s)else eT (.mk (oq 70 O Y) []::s))=(r,0):=I;split at N
 ·cases N
 rename_i c1;have Q:(O=3\/O=4\/O=5)/\(Y=3\/Y=4\/Y=5)/\ofM 70 O Y=oq 70 O Y/\(oq 70 O Y=5/\O=5/\Y=5\/oq 70 O Y=3):=by
  rcases Ei c1 with ⟨rfl,rfl,h1⟩|⟨h1,⟨rfl,rfl⟩|⟨rfl,rfl⟩⟩|⟨h1,rfl,rfl⟩|⟨rfl|rfl,rfl|rfl⟩<;>first|decide|omega
 obtain⟨W,rfl,g1⟩:=gl (by have:=Q.1;omega) f1.2.1;obtain⟨D,rfl,g2⟩:=gl (by have:=Q.2.1;omega) f2.2.1;have C:=kN Q.1 g1;have r2:=kN Q.2.1 g2;unfold bh;by_cases V:vO (W-D)=true;rotate_left
 ·have T:kW W D=(0,11):=by unfold kW;rw[if_pos ⟨iD.2 C.1,iD.2 r2.1⟩];unfold mB;rw[if_neg V]
  have e:aJ 70 [] ⟨a,b,c,d,aQ O W::aQ Y D::q,H,g,u,m,U⟩=(11,⟨a,b,c,d,q,H,g,u,m,U⟩):=by
   unfold aJ;rw[sC];show(if(kW W D).2≠0 then(((kW W D).2,⟨a,b,c,d,q,H,g,u,m,U⟩):MR)else if ofM 70 O Y=5 then(if(kW W D).1<0 then bq ⟨a,b,c,d,q,H,g,u,m,U⟩ [cG []]else bq ⟨a,b,c,d,q,H,g,u,m,U⟩ [cG [aQ 5 (kW W D).1]])else bq ⟨a,b,c,d,q,H,g,u,m,U⟩ [aQ (ofM 70 O Y) (kW W D).1])=_;rw[T];rfl
  rw[e];exact⟨eE _ _ 2 P 70 A _ [aQ O W,aQ Y D] q _ bT (by rw[sC];rfl) fM (Gk ⟨a,b,c,d,q,H,g,u,m,U⟩ O W 0 [] [] [] [] Y D 0 [] [] [] [] 0 11 bT T cc),.inr (.inl Z)⟩
 have T:kW W D=(W-D,0):=by unfold kW;rw[if_pos ⟨iD.2 C.1,iD.2 r2.1⟩];unfold mB;rw[if_pos V]
 rcases Q.2.2.2 with ⟨k5,rfl,rfl⟩|k3
 ·rw[if_pos ⟨Z,k5⟩]at N;cases N;have p:ofM 70 5 5=5:=by decide
  by_cases M:W-D<0
  ·have e:aJ 70 [] ⟨a,b,c,d,aQ 5 W::aQ 5 D::q,H,g,u,m,U⟩=bq ⟨a,b,c,d,q,H,g,u,m,U⟩ [cG []]:=by
    unfold aJ;rw[sC];show(if(kW W D).2≠0 then(((kW W D).2,⟨a,b,c,d,q,H,g,u,m,U⟩):MR)else if ofM 70 5 5=5 then(if(kW W D).1<0 then bq ⟨a,b,c,d,q,H,g,u,m,U⟩ [cG []]else bq ⟨a,b,c,d,q,H,g,u,m,U⟩ [cG [aQ 5 (kW W D).1]])else bq ⟨a,b,c,d,q,H,g,u,m,U⟩ [aQ (ofM 70 5 5) (kW W D).1])=_;rw[T,if_neg (λh=>h Z),if_pos p,if_pos M]
   rw[e];exact⟨eE _ _ 2 P 70 A _ [aQ 5 W,aQ 5 D] q _ bT (by rw[sC];rfl) vn (Gl ⟨a,b,c,d,q,H,g,u,m,U⟩ 5 W 0 [] [] [] [] 5 D 0 [] [] [] [] (W-D) p M T cc),cu (S:=⟨a,b,c,d,q,H,g,u,m,U⟩) (fU (bK K) nW) hq⟩
  ·have e:aJ 70 [] ⟨a,b,c,d,aQ 5 W::aQ 5 D::q,H,g,u,m,U⟩=bq ⟨a,b,c,d,q,H,g,u,m,U⟩ [cG [aQ 5 (W-D)]]:=by
    unfold aJ;rw[sC];show(if(kW W D).2≠0 then(((kW W D).2,⟨a,b,c,d,q,H,g,u,m,U⟩):MR)else if ofM 70 5 5=5 then(if(kW W D).1<0 then bq ⟨a,b,c,d,q,H,g,u,m,U⟩ [cG []]else bq ⟨a,b,c,d,q,H,g,u,m,U⟩ [cG [aQ 5 (kW W D).1]])else bq ⟨a,b,c,d,q,H,g,u,m,U⟩ [aQ (ofM 70 5 5) (kW W D).1])=_;rw[T,if_neg (λh=>h Z),if_pos p,if_neg M]
   rw[e];exact⟨eE _ _ 2 P 70 A _ [aQ 5 W,aQ 5 D] q _ bT (by rw[sC];rfl) vn (Gm ⟨a,b,c,d,q,H,g,u,m,U⟩ 5 W 0 [] [] [] [] 5 D 0 [] [] [] [] (W-D) p M T cc),cu (S:=⟨a,b,c,d,q,H,g,u,m,U⟩) (fU (bK K) (jw (jD bT (iD.1 V) (λ_=>by omega)))) hq⟩
 ·rw[if_neg (λh=>by have:=h.2;omega)]at N;cases N;have p:ofM 70 O Y≠5:=by rw[Q.2.2.1,k3];decide
  have e:aJ 70 [] ⟨a,b,c,d,aQ O W::aQ Y D::q,H,g,u,m,U⟩=bq ⟨a,b,c,d,q,H,g,u,m,U⟩ [aQ (ofM 70 O Y) (W-D)]:=by
   unfold aJ;rw[sC];show(if(kW W D).2≠0 then(((kW W D).2,⟨a,b,c,d,q,H,g,u,m,U⟩):MR)else if ofM 70 O Y=5 then(if(kW W D).1<0 then bq ⟨a,b,c,d,q,H,g,u,m,U⟩ [cG []]else bq ⟨a,b,c,d,q,H,g,u,m,U⟩ [cG [aQ 5 (kW W D).1]])else bq ⟨a,b,c,d,q,H,g,u,m,U⟩ [aQ (ofM 70 O Y) (kW W D).1])=_;rw[T,if_neg (λh=>h Z),if_neg p]
  rw[e];exact⟨eE _ _ 2 P 70 A _ [aQ O W,aQ Y D] q _ bT (by rw[sC];rfl) fM (Gn ⟨a,b,c,d,q,H,g,u,m,U⟩ O W 0 [] [] [] [] Y D 0 [] [] [] [] (W-D) p T cc),cu (S:=⟨a,b,c,d,q,H,g,u,m,U⟩) (fU (bK K) (by rw[Q.2.2.1,k3];exact jD bT (iD.1 V) (λh=>absurd Z h))) hq⟩
def Xu{a b:Int}(ha : -bN<=a/\a<=bN)(G : -bN<=b/\b<=bN)(Q:b≠0):(-bN<=a/b/\a/b<=bN)/\(-bN<=a%b/\a%b<=bN)/\0<=a%b/\(0<=a->0<=b->0<=a/b):=by
 have W:=Int.natAbs_ediv_le_natAbs a b;have Y:=Int.emod_nonneg a Q;have E:=Int.emod_lt a Q;refine⟨by unfold bN at *;omega,by unfold bN at *;omega,Y,λh1 h2=>Int.ediv_nonneg h1 h2⟩
def TT(S:ct)(T:Int)(A:L UInt8)(J:L Nd)(B s:L Ty)(r:L Ty×Bool)(hf:bW 72 J=some B)(E:ep s S.st)(hl:s.length<=340)(G:r.1.all bB=true)(C:bX 72 s=(r,0)):bh T A 72 J S/\bY S r (aJ 72 J S):=by
 obtain⟨a,b,c,d,st,H,g,u,m,U⟩:=S;obtain⟨rfl,rfl⟩:=cQ hf bT;have fj:=bP E;simp only at E fj;rcases s with _|⟨t1,_|⟨t2,s⟩⟩
 ·cases C
 ·cases C
 obtain⟨v,q0,rfl,hv,p⟩:=bl E;obtain⟨w,q,rfl,hw,hq⟩:=bl p;have f1:=cW hv.1;have f2:=cW hw.1;obtain⟨O,IB⟩:=t1;obtain⟨Y,D1⟩:=t2;simp only[aac]at fj hl;have dA:(if oq 72 O Y=0 then aR 5 else eT (.mk 9 [.mk 11 [.mk (if O=5/\Y=5 then 4 else oq 72 O Y) [],.mk (if O=5 then 5 else 4) []]]::s))=(r,0):=C;split at dA
 ·cases dA
 rename_i c1;cases dA;have M:(O=3\/O=4\/O=5)/\(Y=3\/Y=4\/Y=5):=by
  rcases Ei c1 with ⟨rfl,rfl,h1⟩|⟨h1,⟨rfl,rfl⟩|⟨rfl,rfl⟩⟩|⟨h1,rfl,rfl⟩|⟨rfl|rfl,rfl|rfl⟩<;>first|decide|omega
 obtain⟨W,rfl,g1⟩:=gl (by have:=M.1;omega) f1.2.1;obtain⟨D,rfl,g2⟩:=gl (by have:=M.2;omega) f2.2.1;have K:=kN M.1 g1;have I:=kN M.2 g2;unfold bh;by_cases hz:D=0
 ·have V:iz W D=(0,0,6):=by unfold iz;rw[if_pos ⟨iD.2 K.1,iD.2 I.1⟩,if_pos hz]
  have e:aJ 72 [] ⟨a,b,c,d,aQ O W::aQ Y D::q,H,g,u,m,U⟩=bq ⟨a,b,c,d,q,H,g,u,m,U⟩ [cG []]:=by
   unfold aJ;rw[lA];show(if(iz W D).2.2≠0 then bq ⟨a,b,c,d,q,H,g,u,m,U⟩ [cG []]else bq ⟨a,b,c,d,q,H,g,u,m,U⟩ [cG [bA (aQ (if ofM 72 O Y=5/\Y=5 then 4 else ofM 72 O Y) (iz W D).1) (aQ (if ofM 72 O Y=5 then 5 else 4) (iz W D).2.1)]])=_;rw[V];rfl
  rw[e];exact⟨eE _ _ 2 T 72 A _ [aQ O W,aQ Y D] q _ bT acr fM (mY ⟨a,b,c,d,q,H,g,u,m,U⟩ O W 0 [] [] [] [] Y D 0 [] [] [] [] _ (QH ⟨a,b,c,d,q,H,g,u,m,U⟩ (ofM 72 O Y) O W 0 [] [] [] [] Y D 0 [] [] [] [] 0 0 6 bT V cc)),cu (S:=⟨a,b,c,d,q,H,g,u,m,U⟩) (fU (bK G) nW) hq⟩
 have V:iz W D=(W/D,W%D,0):=by unfold iz;rw[if_pos ⟨iD.2 K.1,iD.2 I.1⟩,if_neg hz]
 obtain⟨Q,P,N,pV⟩:=Xu K.1 I.1 hz;have p1:=K.2;have p2:=I.2;rcases Ei c1 with ⟨rfl,rfl,h1⟩|⟨h1,_⟩|⟨h1,rfl,rfl⟩|agO
 ·have e:aJ 72 [] ⟨a,b,c,d,aQ 5 W::aQ 5 D::q,H,g,u,m,U⟩=bq ⟨a,b,c,d,q,H,g,u,m,U⟩ [cG [bA (aQ 4 (W/D)) (aQ 5 (W%D))]]:=by
   unfold aJ;rw[lA];show(if(iz W D).2.2≠0 then bq ⟨a,b,c,d,q,H,g,u,m,U⟩ [cG []]else bq ⟨a,b,c,d,q,H,g,u,m,U⟩ [cG [bA (aQ (if ofM 72 5 5=5/\5=5 then 4 else ofM 72 5 5) (iz W D).1) (aQ (if ofM 72 5 5=5 then 5 else 4) (iz W D).2.1)]])=_;rw[V,if_neg (λh=>h Z)];rfl
  rw[e];exact⟨eE _ _ 2 T 72 A _ [aQ 5 W,aQ 5 D] q _ bT acr vn (mY ⟨a,b,c,d,q,H,g,u,m,U⟩ 5 W 0 [] [] [] [] 5 D 0 [] [] [] [] _ (Ub ⟨a,b,c,d,q,H,g,u,m,U⟩ (ofM 72 5 5) 5 W 0 [] [] [] [] 5 D 0 [] [] [] [] (W/D) (W%D) bT Z V cc)),cu (S:=⟨a,b,c,d,q,H,g,u,m,U⟩) (fU (bK G) (jw (kO (jD bT Q (λ_=>pV (p1 bT) (p2 bT))) (jD bT P (λ_=>N))))) hq⟩
 ·omega
 ·have e:aJ 72 [] ⟨a,b,c,d,aQ 5 W::aQ 4 D::q,H,g,u,m,U⟩=bq ⟨a,b,c,d,q,H,g,u,m,U⟩ [cG [bA (aQ 5 (W/D)) (aQ 5 (W%D))]]:=by
   unfold aJ;rw[lA];show(if(iz W D).2.2≠0 then bq ⟨a,b,c,d,q,H,g,u,m,U⟩ [cG []]else bq ⟨a,b,c,d,q,H,g,u,m,U⟩ [cG [bA (aQ (if ofM 72 5 4=5/\4=5 then 4 else ofM 72 5 4) (iz W D).1) (aQ (if ofM 72 5 4=5 then 5 else 4) (iz W D).2.1)]])=_;rw[V,if_neg (λh=>h Z)];rfl
  rw[e];exact⟨eE _ _ 2 T 72 A _ [aQ 5 W,aQ 4 D] q _ bT acr (by show List.length (aQ 5 W::aQ 4 D::q)<=_;simp only[aac];omega) (mY ⟨a,b,c,d,q,H,g,u,m,U⟩ 5 W 0 [] [] [] [] 4 D 0 [] [] [] [] _ (Xk ⟨a,b,c,d,q,H,g,u,m,U⟩ (ofM 72 5 4) 5 W 0 [] [] [] [] 4 D 0 [] [] [] [] (W/D) (W%D) bT bT V cc)),cu (S:=⟨a,b,c,d,q,H,g,u,m,U⟩) (fU (bK G) (jw (kO (jD bT Q (λ_=>pV (p1 bT) (p2 bT))) (jD bT P (λ_=>N))))) hq⟩
 ·rcases agO with ⟨rfl|rfl,rfl|rfl⟩
  ·have e:aJ 72 [] ⟨a,b,c,d,aQ 3 W::aQ 3 D::q,H,g,u,m,U⟩=bq ⟨a,b,c,d,q,H,g,u,m,U⟩ [cG [bA (aQ 3 (W/D)) (aQ 4 (W%D))]]:=by
    unfold aJ;rw[lA];show(if(iz W D).2.2≠0 then bq ⟨a,b,c,d,q,H,g,u,m,U⟩ [cG []]else bq ⟨a,b,c,d,q,H,g,u,m,U⟩ [cG [bA (aQ (if ofM 72 3 3=5/\3=5 then 4 else ofM 72 3 3) (iz W D).1) (aQ (if ofM 72 3 3=5 then 5 else 4) (iz W D).2.1)]])=_;rw[V,if_neg (λh=>h Z)];rfl
   rw[e];exact⟨eE _ _ 2 T 72 A _ [aQ 3 W,aQ 3 D] q _ bT acr (by show List.length (aQ 3 W::aQ 3 D::q)<=_;simp only[aac];omega) (mY ⟨a,b,c,d,q,H,g,u,m,U⟩ 3 W 0 [] [] [] [] 3 D 0 [] [] [] [] _ (Bi ⟨a,b,c,d,q,H,g,u,m,U⟩ (ofM 72 3 3) 3 W 0 [] [] [] [] 3 D 0 [] [] [] [] (W/D) (W%D) bT V cc)),cu (S:=⟨a,b,c,d,q,H,g,u,m,U⟩) (fU (bK G) (jw (kO (jD bT Q (λh=>absurd Z h)) (jD bT P (λ_=>N))))) hq⟩
  ·have e:aJ 72 [] ⟨a,b,c,d,aQ 3 W::aQ 4 D::q,H,g,u,m,U⟩=bq ⟨a,b,c,d,q,H,g,u,m,U⟩ [cG [bA (aQ 3 (W/D)) (aQ 4 (W%D))]]:=by
    unfold aJ;rw[lA];show(if(iz W D).2.2≠0 then bq ⟨a,b,c,d,q,H,g,u,m,U⟩ [cG []]else bq ⟨a,b,c,d,q,H,g,u,m,U⟩ [cG [bA (aQ (if ofM 72 3 4=5/\4=5 then 4 else ofM 72 3 4) (iz W D).1) (aQ (if ofM 72 3 4=5 then 5 else 4) (iz W D).2.1)]])=_;rw[V,if_neg (λh=>h Z)];rfl
   rw[e];exact⟨eE _ _ 2 T 72 A _ [aQ 3 W,aQ 4 D] q _ bT acr (by show List.length (aQ 3 W::aQ 4 D::q)<=_;simp only[aac];omega) (mY ⟨a,b,c,d,q,H,g,u,m,U⟩ 3 W 0 [] [] [] [] 4 D 0 [] [] [] [] _ (Bi ⟨a,b,c,d,q,H,g,u,m,U⟩ (ofM 72 3 4) 3 W 0 [] [] [] [] 4 D 0 [] [] [] [] (W/D) (W%D) bT V cc)),cu (S:=⟨a,b,c,d,q,H,g,u,m,U⟩) (fU (bK G) (jw (kO (jD bT Q (λh=>absurd Z h)) (jD bT P (λ_=>N))))) hq⟩
  ·have e:aJ 72 [] ⟨a,b,c,d,aQ 4 W::aQ 3 D::q,H,g,u,m,U⟩=bq ⟨a,b,c,d,q,H,g,u,m,U⟩ [cG [bA (aQ 3 (W/D)) (aQ 4 (W%D))]]:=by
    unfold aJ;rw[lA];show(if(iz W D).2.2≠0 then bq ⟨a,b,c,d,q,H,g,u,m,U⟩ [cG []]else bq ⟨a,b,c,d,q,H,g,u,m,U⟩ [cG [bA (aQ (if ofM 72 4 3=5/\3=5 then 4 else ofM 72 4 3) (iz W D).1) (aQ (if ofM 72 4 3=5 then 5 else 4) (iz W D).2.1)]])=_;rw[V,if_neg (λh=>h Z)];rfl
   rw[e];exact⟨eE _ _ 2 T 72 A _ [aQ 4 W,aQ 3 D] q _ bT acr (by show List.length (aQ 4 W::aQ 3 D::q)<=_;simp only[aac];omega) (mY ⟨a,b,c,d,q,H,g,u,m,U⟩ 4 W 0 [] [] [] [] 3 D 0 [] [] [] [] _ (Bi ⟨a,b,c,d,q,H,g,u,m,U⟩ (ofM 72 4 3) 4 W 0 [] [] [] [] 3 D 0 [] [] [] [] (W/D) (W%D) bT V cc)),cu (S:=⟨a,b,c,d,q,H,g,u,m,U⟩) (fU (bK G) (jw (kO (jD bT Q (λh=>absurd Z h)) (jD bT P (λ_=>N))))) hq⟩
  ·have e:aJ 72 [] ⟨a,b,c,d,aQ 4 W::aQ 4 D::q,H,g,u,m,U⟩=bq ⟨a,b,c,d,q,H,g,u,m,U⟩ [cG [bA (aQ 4 (W/D)) (aQ 4 (W%D))]]:=by
    unfold aJ;rw[lA];show(if(iz W D).2.2≠0 then bq ⟨a,b,c,d,q,H,g,u,m,U⟩ [cG []]else bq ⟨a,b,c,d,q,H,g,u,m,U⟩ [cG [bA (aQ (if ofM 72 4 4=5/\4=5 then 4 else ofM 72 4 4) (iz W D).1) (aQ (if ofM 72 4 4=5 then 5 else 4) (iz W D).2.1)]])=_;rw[V,if_neg (λh=>h Z)];rfl
   rw[e];exact⟨eE _ _ 2 T 72 A _ [aQ 4 W,aQ 4 D] q _ bT acr (by show List.length (aQ 4 W::aQ 4 D::q)<=_;simp only[aac];omega) (mY ⟨a,b,c,d,q,H,g,u,m,U⟩ 4 W 0 [] [] [] [] 4 D 0 [] [] [] [] _ (Bi ⟨a,b,c,d,q,H,g,u,m,U⟩ (ofM 72 4 4) 4 W 0 [] [] [] [] 4 D 0 [] [] [] [] (W/D) (W%D) bT V cc)),cu (S:=⟨a,b,c,d,q,H,g,u,m,U⟩) (fU (bK G) (jw (kO (jD bT Q (λ_=>pV (p1 bT) (p2 bT))) (jD bT P (λ_=>N))))) hq⟩
end Go.Proofs
