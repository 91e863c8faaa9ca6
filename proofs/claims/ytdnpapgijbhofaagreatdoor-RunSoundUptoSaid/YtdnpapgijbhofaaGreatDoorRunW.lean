/- Package run: -/
import Derived.Test.YtdnpapgijbhofaaGreatDoorRunU
set_option linter.defProp false
set_option linter.unusedVariables false
set_option linter.unusedSimpArgs false
namespace Go.Proofs
open Go.cM
def zh{P:Int}{J:L Nd}{Y:L Ty}(h:bJ P J=some Y)(V:fG P=[116]):∃x,J=[x]/\(aW x).2=0/\Y=[(aW x).1]:=by
 obtain⟨h1,h2⟩:=jk h;rw[V]at h1 h2;obtain⟨y,rfl⟩:=List.length_eq_one_iff.1 h1;obtain⟨W,N,p,q,x⟩:=y;have K:(if(aW (.mk W N p q x)).2=0 then some ([]++[(aW (.mk W N p q x)).1])else none)=some Y:=h2;split at K
 ·simp_all
 ·cases K
def eW{t:Ty}{v:Vl}(p:br t=true)(h:bE v t=true/\eC v=true):lu t v=true:=by
 unfold lu oA;rw[p,h.1,h.2];rfl
def cN{t:Ty}{v:Vl}(h:lu t v=true):br t=true/\bE v t=true/\eC v=true:=by
 unfold lu oA at h;simp only[aal]at h;exact⟨h.1.1,h.1.2,h.2⟩
def bz{t:Ty}{s:L Ty}(h:(t::s).all br=true):br t=true:=by simp_all
def Co{t:Ty}{s:L Ty}(h:(t::s).all br=true):s.all br=true:=by simp_all
def M7:bW 46=2:=by decide +kernel
def M8:bW 47=1:=by decide +kernel
def M9:bW 48=1:=by decide +kernel
def Na:bW 49=1:=by decide +kernel
def Nb:bW 50=1:=by decide +kernel
def Nc:bW 51=1:=by decide +kernel
def Nf:bW 53=1:=by decide +kernel
def Ng:bW 54=0:=by decide +kernel
def Nh:bW 56=0:=by decide +kernel
def Lg(S:b9)(T:Int)(P:L UInt8)(J:L Nd)(W:L (L Ty->CR))(Y s:L Ty)(r:L Ty×Bool)(hf:bJ 46 J=some Y)(V:dH s S.st)(Q:s.length<=340)(p:r.1.all br=true)(A:aV 46 W Y s=(r,0)):bf T P 46 J S/\bK S r (aH 46 J S):=by
 obtain⟨a,b,c,d,st,H,g,u,m,G⟩:=S;obtain⟨rfl,rfl⟩:=cC hf cc;have U:=bF V;simp only at V U;rcases s with _|⟨K,_|⟨I,s⟩⟩
 ·cases A
 ·cases A
 obtain⟨v,E,rfl,B,O⟩:=bh V;obtain⟨w,q,rfl,D,hq⟩:=bh O;cases A;have M:=cN B.1;have N:=cN D.1;have e:aH 46 [] ⟨a,b,c,d,v::w::q,H,g,u,m,G⟩=bp ⟨a,b,c,d,q,H,g,u,m,G⟩ [bt v w]:=by unfold aH;rw[M7];rfl
 unfold bf;rw[e]
 try simp only[aac]at U Q
 exact⟨ir _ _ 2 T 46 P _ [v,w] q _ cc (by rw[M7];rfl) (by show List.length (v::w::q)<=_;simp only[aac];omega) (KE ⟨a,b,c,d,q,H,g,u,m,G⟩ T P v w (by have:=B.2;have:=D.2;simp only[bt,aO,aK,bg,aS,aad];omega) c9),bX (S:=⟨a,b,c,d,q,H,g,u,m,G⟩) (eW (bz p) (jR M.2 N.2)) hq⟩
def Gj(S:b9)(V:Int)(P:L UInt8)(J:L Nd)(W:L (L Ty->CR))(Y s:L Ty)(r:L Ty×Bool)(hf:bJ 47 J=some Y)(U:dH s S.st)(K:s.length<=340)(p:r.1.all br=true)(A:aV 47 W Y s=(r,0)):bf V P 47 J S/\bK S r (aH 47 J S):=by
 obtain⟨a,b,c,d,st,H,g,u,m,G⟩:=S;obtain⟨rfl,rfl⟩:=cC hf cc;have O:=bF U;simp only at U O;cases s with
 |nil=>cases A
 |cons t s =>
 obtain⟨v,q,rfl,B,hq⟩:=bh U;have M:=cN B.1;have Q:(if bM t=11 then dX (aq t++s)else aM 5)=(r,0):=A;split at Q;rotate_left
 ·cases Q
 rename_i N;obtain⟨T,ts⟩:=t;simp only[bM]at N;subst N;obtain⟨C,t2,rfl,Mw,R9⟩:=eD (cG M.1) cc;obtain⟨x,y,rfl,I,E⟩:=tV M.2.1 M.2.2;cases Q;have D:=B.2;simp only[bt,aO,aK,bg,aS,aad]at D;have e:aH 47 [] ⟨a,b,c,d,bt x y::q,H,g,u,m,G⟩=bp ⟨a,b,c,d,q,H,g,u,m,G⟩ [y,x]:=by unfold aH;rw[M8];rfl
 unfold bf;rw[e]
 try simp only[aac]at O K
 exact⟨ir _ _ 2 V 47 P _ [bt x y] q _ cc (by rw[M8];rfl) Dq (KJ ⟨a,b,c,d,q,H,g,u,m,G⟩ V P 11 0 0 [] x y [] [] bn bn c9),F8 (S:=⟨a,b,c,d,q,H,g,u,m,G⟩) (eW (bz p) I) (eW (bz (Co p)) E) hq⟩
def Oj(S:b9)(V:Int)(P:L UInt8)(J:L Nd)(W:L (L Ty->CR))(Y s:L Ty)(r:L Ty×Bool)(hf:bJ 48 J=some Y)(U:dH s S.st)(K:s.length<=340)(p:r.1.all br=true)(A:aV 48 W Y s=(r,0)):bf V P 48 J S/\bK S r (aH 48 J S):=by
 obtain⟨a,b,c,d,st,H,g,u,m,G⟩:=S;obtain⟨rfl,rfl⟩:=cC hf cc;have O:=bF U;simp only at U O;cases s with
 |nil=>cases A
 |cons t s =>
 obtain⟨v,q,rfl,B,hq⟩:=bh U;have M:=cN B.1;have Q:(if bM t=11 then dX (aD t 0::s)else aM 5)=(r,0):=A;split at Q;rotate_left
 ·cases Q
 rename_i N;obtain⟨T,ts⟩:=t;simp only[bM]at N;subst N;obtain⟨D,C,rfl,Mw,R9⟩:=eD (cG M.1) cc;obtain⟨x,y,rfl,I,hy⟩:=tV M.2.1 M.2.2;cases Q;have E:=B.2;simp only[bt,aO,aK,bg,aS,aad]at E;have e:aH 48 [] ⟨a,b,c,d,bt x y::q,H,g,u,m,G⟩=bp ⟨a,b,c,d,q,H,g,u,m,G⟩ [x]:=by unfold aH;rw[M9];rfl
 unfold bf;rw[e]
 try simp only[aac]at O K
 exact⟨ir _ _ 2 V 48 P _ [bt x y] q _ cc (by rw[M9];rfl) Dq (KK ⟨a,b,c,d,q,H,g,u,m,G⟩ V P 11 0 0 [] x y [] [] bn c9),bX (S:=⟨a,b,c,d,q,H,g,u,m,G⟩) (eW (bz p) I) hq⟩
def Ok(S:b9)(V:Int)(P:L UInt8)(J:L Nd)(W:L (L Ty->CR))(Y s:L Ty)(r:L Ty×Bool)(hf:bJ 49 J=some Y)(U:dH s S.st)(K:s.length<=340)(p:r.1.all br=true)(A:aV 49 W Y s=(r,0)):bf V P 49 J S/\bK S r (aH 49 J S):=by
 obtain⟨a,b,c,d,st,H,g,u,m,G⟩:=S;obtain⟨rfl,rfl⟩:=cC hf cc;have O:=bF U;simp only at U O;cases s with
 |nil=>cases A
 |cons t s =>
 obtain⟨v,q,rfl,B,hq⟩:=bh U;have M:=cN B.1;have Q:(if bM t=11 then dX (aD t 1::s)else aM 5)=(r,0):=A;split at Q;rotate_left
 ·cases Q
 rename_i N;obtain⟨T,ts⟩:=t;simp only[bM]at N;subst N;obtain⟨D,C,rfl,Mw,R9⟩:=eD (cG M.1) cc;obtain⟨x,y,rfl,hx,I⟩:=tV M.2.1 M.2.2;cases Q;have E:=B.2;simp only[bt,aO,aK,bg,aS,aad]at E;have e:aH 49 [] ⟨a,b,c,d,bt x y::q,H,g,u,m,G⟩=bp ⟨a,b,c,d,q,H,g,u,m,G⟩ [y]:=by unfold aH;rw[Na];rfl
 unfold bf;rw[e]
 try simp only[aac]at O K
 exact⟨ir _ _ 2 V 49 P _ [bt x y] q _ cc (by rw[Na];rfl) Dq (KL ⟨a,b,c,d,q,H,g,u,m,G⟩ V P 11 0 0 [] x y [] [] bn c9),bX (S:=⟨a,b,c,d,q,H,g,u,m,G⟩) (eW (bz p) I) hq⟩
def Li(S:b9)(T:Int)(P:L UInt8)(J:L Nd)(W:L (L Ty->CR))(Y s:L Ty)(r:L Ty×Bool)(hf:bJ 53 J=some Y)(V:dH s S.st)(Q:s.length<=340)(p:r.1.all br=true)(A:aV 53 W Y s=(r,0)):bf T P 53 J S/\bK S r (aH 53 J S):=by
 obtain⟨a,b,c,d,st,H,g,u,m,G⟩:=S;obtain⟨rfl,rfl⟩:=cC hf cc;have U:=bF V;simp only at V U;cases s with
 |nil=>cases A
 |cons t s =>
 obtain⟨v,q,rfl,B,hq⟩:=bh V;cases A;have M:=cN B.1;have e:aH 53 [] ⟨a,b,c,d,v::q,H,g,u,m,G⟩=bp ⟨a,b,c,d,q,H,g,u,m,G⟩ [cw [v]]:=by unfold aH;rw[Nf];rfl
 unfold bf;rw[e]
 try simp only[aac]at U Q
 exact⟨ir _ _ 2 T 53 P _ [v] q _ cc (by rw[Nf];rfl) p5 (KH ⟨a,b,c,d,q,H,g,u,m,G⟩ T P v K0 c9),bX (S:=⟨a,b,c,d,q,H,g,u,m,G⟩) (eW (bz p) (hD M.2)) hq⟩
def Lh(S:b9)(T:Int)(P:L UInt8)(J:L Nd)(W:L (L Ty->CR))(Y s:L Ty)(r:L Ty×Bool)(hf:bJ 50 J=some Y)(V:dH s S.st)(Q:s.length<=340)(p:r.1.all br=true)(A:aV 50 W Y s=(r,0)):bf T P 50 J S/\bK S r (aH 50 J S):=by
 obtain⟨a,b,c,d,st,H,g,u,m,G⟩:=S;obtain⟨x,rfl,I,rfl⟩:=zh hf cc;have U:=bF V;simp only at V U;cases s with
 |nil=>cases A
 |cons t s =>
 obtain⟨v,q,rfl,B,hq⟩:=bh V;cases A;have M:=cN B.1;have e:aH 50 [x] ⟨a,b,c,d,v::q,H,g,u,m,G⟩=bp ⟨a,b,c,d,q,H,g,u,m,G⟩ [.mk 12 (50-50) 0 [] [v] [] []]:=by unfold aH;rw[Nb];rfl
 unfold bf;rw[e]
 try simp only[aac]at U Q
 exact⟨ir _ _ 2 T 50 P _ [v] q _ cc (by rw[Nb];rfl) p5 (KF ⟨a,b,c,d,q,H,g,u,m,G⟩ T P x v K0 c9),bX (S:=⟨a,b,c,d,q,H,g,u,m,G⟩) (eW (bz p) (Tq M.2)) hq⟩
def I7(S:b9)(T:Int)(P:L UInt8)(J:L Nd)(W:L (L Ty->CR))(Y s:L Ty)(r:L Ty×Bool)(hf:bJ 51 J=some Y)(V:dH s S.st)(Q:s.length<=340)(p:r.1.all br=true)(A:aV 51 W Y s=(r,0)):bf T P 51 J S/\bK S r (aH 51 J S):=by
 obtain⟨a,b,c,d,st,H,g,u,m,G⟩:=S;obtain⟨x,rfl,I,rfl⟩:=zh hf cc;have U:=bF V;simp only at V U;cases s with
 |nil=>cases A
 |cons t s =>
 obtain⟨v,q,rfl,B,hq⟩:=bh V;cases A;have M:=cN B.1;have e:aH 51 [x] ⟨a,b,c,d,v::q,H,g,u,m,G⟩=bp ⟨a,b,c,d,q,H,g,u,m,G⟩ [.mk 12 (51-50) 0 [] [v] [] []]:=by unfold aH;rw[Nc];rfl
 unfold bf;rw[e]
 try simp only[aac]at U Q
 exact⟨ir _ _ 2 T 51 P _ [v] q _ cc (by rw[Nc];rfl) p5 (KG ⟨a,b,c,d,q,H,g,u,m,G⟩ T P x v K0 c9),bX (S:=⟨a,b,c,d,q,H,g,u,m,G⟩) (eW (bz p) (Tr M.2)) hq⟩
def Lj(S:b9)(T:Int)(P:L UInt8)(J:L Nd)(W:L (L Ty->CR))(Y s:L Ty)(r:L Ty×Bool)(hf:bJ 54 J=some Y)(V:dH s S.st)(B:s.length<=340)(p:r.1.all br=true)(A:aV 54 W Y s=(r,0)):bf T P 54 J S/\bK S r (aH 54 J S):=by
 obtain⟨a,b,c,d,st,H,g,u,m,G⟩:=S;obtain⟨x,rfl,I,rfl⟩:=zh hf cc;have U:=bF V;simp only at V U;cases A;have e:aH 54 [x] ⟨a,b,c,d,st,H,g,u,m,G⟩=bp ⟨a,b,c,d,st,H,g,u,m,G⟩ [cw []]:=by unfold aH;rw[Ng];rfl
 unfold bf;rw[e]
 try simp only[aac]at U B
 exact⟨ir _ _ 2 T 54 P _ [] st _ cc (by rw[Ng];rfl) P7 (KI ⟨a,b,c,d,st,H,g,u,m,G⟩ T P x cc P7),bX (S:=⟨a,b,c,d,st,H,g,u,m,G⟩) (eW (bz p) lU) V⟩
def Ol(S:b9)(T:Int)(P:L UInt8)(J:L Nd)(W:L (L Ty->CR))(Y s:L Ty)(r:L Ty×Bool)(hf:bJ 56 J=some Y)(V:dH s S.st)(B:s.length<=340)(p:r.1.all br=true)(A:aV 56 W Y s=(r,0)):bf T P 56 J S/\bK S r (aH 56 J S):=by
 obtain⟨a,b,c,d,st,H,g,u,m,G⟩:=S;obtain⟨x,rfl,I,rfl⟩:=zh hf cc;have U:=bF V;simp only at V U;cases A;have e:aH 56 [x] ⟨a,b,c,d,st,H,g,u,m,G⟩=bp ⟨a,b,c,d,st,H,g,u,m,G⟩ [.mk 10 0 0 [] [] [] []]:=by unfold aH;rw[Nh];rfl
 unfold bf;rw[e]
 try simp only[aac]at U B
 exact⟨ir _ _ 2 T 56 P _ [] st _ cc (by rw[Nh];rfl) P7 (NX ⟨a,b,c,d,st,H,g,u,m,G⟩ T P x cc P7),bX (S:=⟨a,b,c,d,st,H,g,u,m,G⟩) (eW (bz p) (CB cc Z Z)) V⟩
def A4:bW 69=2:=by decide +kernel
def pV:bW 70=2:=by decide +kernel
def A5:bW 71=2:=by decide +kernel
def jA:bW 72=2:=by decide +kernel
def Ni:bW 93=1:=by decide +kernel
def A6:bW 94=1:=by decide +kernel
def Nj:bW 95=1:=by decide +kernel
def gq{n:Int}:sJ n=true ↔ -bL<=n/\n<=bL:=by
 unfold sJ bL;simp;try omega
def jd{T n:Int}{ts:L Ty}(N:T=3\/T=4\/T=5)(h:bE (aL T n) (.mk T ts)=true):(-bL<=n/\n<=bL)/\(T≠3->0<=n):=by
 obtain⟨_,K,W,Y,_⟩:=K2 h;rcases N with rfl|rfl|rfl
 ·omega
 ·omega
 ·omega
def iq{T n:Int}(N:T=3\/T=4\/T=5)(h : -bL<=n/\n<=bL)(p:T≠3->0<=n):bE (aL T n) (.mk T [])=true/\eC (aL T n)=true:=by
 rcases N with rfl|rfl|rfl
 ·exact lT (.inr (.inl ⟨Z,h⟩))
 ·exact lT (.inr (.inr (.inl ⟨Z,p cc,h.2⟩)))
 ·exact lT (.inr (.inr (.inr (.inl ⟨Z,p cc,h.2⟩))))
def A7{P a b:Int}(h:¬mg P a b=0):(a=5/\b=5/\(P=69\/P=70\/P=72))\/(P=71/\(a=5/\b=4\/a=4/\b=5))\/(P=72/\a=5/\b=4)\/((a=3\/a=4)/\(b=3\/b=4)):=by
 unfold mg at h;by_cases Y:a=5/\b=5/\(P=69\/P=70\/P=72)
 ·exact .inl Y
 rw[if_neg Y]at h;by_cases C:P=71/\(a=5/\b=4\/a=4/\b=5)
 ·exact .inr (.inl C)
 rw[if_neg C]at h;by_cases K:P=72/\a=5/\b=4
 ·exact .inr (.inr (.inl K))
 rw[if_neg K]at h;by_cases c4:(a=3\/a=4)/\(b=3\/b=4)
 ·exact .inr (.inr (.inr c4))
 ·rw[if_neg c4]at h;exact absurd Z h
def Jj(P a b:Int)(B:P=69\/P=71)(h:¬mg P a b=0):ofM P a b=mg P a b/\(mg P a b=3\/mg P a b=4\/mg P a b=5)/\(a=3\/a=4\/a=5)/\(b=3\/b=4\/b=5)/\(mg P a b≠3->a≠3/\b≠3):=by
 rcases A7 h with ⟨rfl,rfl,h1⟩|⟨h1,⟨rfl,rfl⟩|⟨rfl,rfl⟩⟩|⟨h1,rfl,rfl⟩|⟨rfl|rfl,rfl|rfl⟩<;>rcases B with rfl|rfl<;>first|decide|omega
def N9(S:b9)(T:Int)(Q:L UInt8)(D:L Nd)(V s:L Ty)(r:L Ty×Bool)(hf:bJ 69 D=some V)(O:dH s S.st)(B:s.length<=340)(hg:r.1.all br=true)(p:bN 69 s=(r,0)):bf T Q 69 D S/\bK S r (aH 69 D S):=by
 obtain⟨a,b,c,d,st,H,g,u,m,G⟩:=S;obtain⟨rfl,rfl⟩:=cC hf cc;have I:=bF O;simp only at O I;rcases s with _|⟨t1,_|⟨t2,s⟩⟩
 ·cases p
 ·cases p
 obtain⟨v,q0,rfl,hv,qo⟩:=bh O;obtain⟨w,q,rfl,hw,hq⟩:=bh qo;have f1:=cN hv.1;have f2:=cN hw.1;obtain⟨P,Ee⟩:=t1;obtain⟨Y,AP⟩:=t2;have N:(if mg 69 P Y=0 then aM 5 else dX (.mk (mg 69 P Y) []::s))=(r,0):=p;split at N
 ·cases N
 rename_i c1;cases N;have W:=Jj 69 P Y cc c1;obtain⟨U,rfl,g1⟩:=fy (by have:=W.2.2.1;omega) f1.2.1;obtain⟨J,rfl,g2⟩:=fy (by have:=W.2.2.2.1;omega) f2.2.1;have M:=jd W.2.2.1 g1;have K:=jd W.2.2.2.1 g2;simp only[aac]at I B;unfold bf;by_cases E:sJ (U+J)=true
 ·have A:rF U J=(U+J,0):=by unfold rF;rw[if_pos ⟨gq.2 M.1,gq.2 K.1⟩];unfold kz;rw[if_pos E]
  have e:aH 69 [] ⟨a,b,c,d,aL P U::aL Y J::q,H,g,u,m,G⟩=bp ⟨a,b,c,d,q,H,g,u,m,G⟩ [aL (ofM 69 P Y) (U+J)]:=by
   unfold aH;rw[A4];show(if(rF U J).2≠0 then(((rF U J).2,⟨a,b,c,d,q,H,g,u,m,G⟩):MR)else bp ⟨a,b,c,d,q,H,g,u,m,G⟩ [aL (ofM 69 P Y) (rF U J).1])=_;rw[A];rfl
  rw[e]
  exact⟨dO _ _ 2 T 69 Q _ [aL P U,aL Y J] q _ cc (by rw[A4];rfl) gB (DL ⟨a,b,c,d,q,H,g,u,m,G⟩ P U 0 [] [] [] [] Y J 0 [] [] [] [] (U+J) A c9),
   bX (S:=⟨a,b,c,d,q,H,g,u,m,G⟩) (eW (bz hg) (by rw[W.1];exact iq W.2.1 (gq.1 E) (λC=>by have:=W.2.2.2.2 C;have:=M.2 this.1;have:=K.2 (W.2.2.2.2 C).2;omega))) hq⟩
 ·have A:rF U J=(0,11):=by unfold rF;rw[if_pos ⟨gq.2 M.1,gq.2 K.1⟩];unfold kz;rw[if_neg E]
  have e:aH 69 [] ⟨a,b,c,d,aL P U::aL Y J::q,H,g,u,m,G⟩=(11,⟨a,b,c,d,q,H,g,u,m,G⟩):=by
   unfold aH;rw[A4];show(if(rF U J).2≠0 then(((rF U J).2,⟨a,b,c,d,q,H,g,u,m,G⟩):MR)else bp ⟨a,b,c,d,q,H,g,u,m,G⟩ [aL (ofM 69 P Y) (rF U J).1])=_;rw[A];rfl
  rw[e];exact⟨dO _ _ 2 T 69 Q _ [aL P U,aL Y J] q _ cc (by rw[A4];rfl) gB (CJ ⟨a,b,c,d,q,H,g,u,m,G⟩ P U 0 [] [] [] [] Y J 0 [] [] [] [] 0 11 cc A c9),.inr (.inl Z)⟩
def Ob(S:b9)(T:Int)(Q:L UInt8)(D:L Nd)(V s:L Ty)(r:L Ty×Bool)(hf:bJ 71 D=some V)(O:dH s S.st)(B:s.length<=340)(hg:r.1.all br=true)(p:bN 71 s=(r,0)):bf T Q 71 D S/\bK S r (aH 71 D S):=by
 obtain⟨a,b,c,d,st,H,g,u,m,G⟩:=S;obtain⟨rfl,rfl⟩:=cC hf cc;have I:=bF O;simp only at O I;rcases s with _|⟨t1,_|⟨t2,s⟩⟩
 ·cases p
 ·cases p
 obtain⟨v,q0,rfl,hv,qo⟩:=bh O;obtain⟨w,q,rfl,hw,hq⟩:=bh qo;have f1:=cN hv.1;have f2:=cN hw.1;obtain⟨P,Ee⟩:=t1;obtain⟨Y,AP⟩:=t2;have N:(if mg 71 P Y=0 then aM 5 else dX (.mk (mg 71 P Y) []::s))=(r,0):=p;split at N
 ·cases N
 rename_i c1;cases N;have W:=Jj 71 P Y cc c1;obtain⟨U,rfl,g1⟩:=fy (by have:=W.2.2.1;omega) f1.2.1;obtain⟨J,rfl,g2⟩:=fy (by have:=W.2.2.2.1;omega) f2.2.1;have M:=jd W.2.2.1 g1;have K:=jd W.2.2.2.1 g2;simp only[aac]at I B;unfold bf;by_cases E:sJ (U*J)=true
 ·have A:qd U J=(U*J,0):=by unfold qd;rw[if_pos ⟨gq.2 M.1,gq.2 K.1⟩];unfold kz;rw[if_pos E]
  have e:aH 71 [] ⟨a,b,c,d,aL P U::aL Y J::q,H,g,u,m,G⟩=bp ⟨a,b,c,d,q,H,g,u,m,G⟩ [aL (ofM 71 P Y) (U*J)]:=by
   unfold aH;rw[A5];show(if(qd U J).2≠0 then(((qd U J).2,⟨a,b,c,d,q,H,g,u,m,G⟩):MR)else bp ⟨a,b,c,d,q,H,g,u,m,G⟩ [aL (ofM 71 P Y) (qd U J).1])=_;rw[A];rfl
  rw[e]
  exact⟨dO _ _ 2 T 71 Q _ [aL P U,aL Y J] q _ cc (by rw[A5];rfl) gB (DM ⟨a,b,c,d,q,H,g,u,m,G⟩ P U 0 [] [] [] [] Y J 0 [] [] [] [] (U*J) A c9),
   bX (S:=⟨a,b,c,d,q,H,g,u,m,G⟩) (eW (bz hg) (by rw[W.1];exact iq W.2.1 (gq.1 E) (λC=>Int.mul_nonneg (M.2 (W.2.2.2.2 C).1) (K.2 (W.2.2.2.2 C).2)))) hq⟩
 ·have A:qd U J=(0,11):=by unfold qd;rw[if_pos ⟨gq.2 M.1,gq.2 K.1⟩];unfold kz;rw[if_neg E]
  have e:aH 71 [] ⟨a,b,c,d,aL P U::aL Y J::q,H,g,u,m,G⟩=(11,⟨a,b,c,d,q,H,g,u,m,G⟩):=by
   unfold aH;rw[A5];show(if(qd U J).2≠0 then(((qd U J).2,⟨a,b,c,d,q,H,g,u,m,G⟩):MR)else bp ⟨a,b,c,d,q,H,g,u,m,G⟩ [aL (ofM 71 P Y) (qd U J).1])=_;rw[A];rfl
  rw[e];exact⟨dO _ _ 2 T 71 Q _ [aL P U,aL Y J] q _ cc (by rw[A5];rfl) gB (CK ⟨a,b,c,d,q,H,g,u,m,G⟩ P U 0 [] [] [] [] Y J 0 [] [] [] [] 0 11 cc A c9),.inr (.inl Z)⟩
def Od(S:b9)(W:Int)(U:L UInt8)(J:L Nd)(Y s:L Ty)(r:L Ty×Bool)(hf:bJ 93 J=some Y)(V:dH s S.st)(B:s.length<=340)(p:r.1.all br=true)(A:bN 93 s=(r,0)):bf W U 93 J S/\bK S r (aH 93 J S):=by
 obtain⟨a,b,c,d,st,H,g,u,m,G⟩:=S;obtain⟨rfl,rfl⟩:=cC hf cc;have Q:=bF V;simp only at V Q;cases s with
 |nil=>cases A
 |cons t s =>
 obtain⟨v,q,rfl,M,hq⟩:=bh V;have K:=cN M.1;obtain⟨T,ts⟩:=t;simp only[aac]at Q B;have P:(if T=3 then dX (.mk 4 []::s)else aM 5)=(r,0):=A;split at P;rotate_left
 ·cases P
 rename_i I;subst I;cases P;obtain⟨n,rfl,g1⟩:=fy cc K.2.1;have O:=jd cc g1;unfold bf;have N:mh n=(if n<0 then -n else n,0):=by unfold mh;rw[if_pos (gq.2 O.1)]
 have e:aH 93 [] ⟨a,b,c,d,aL 3 n::q,H,g,u,m,G⟩=bp ⟨a,b,c,d,q,H,g,u,m,G⟩ [aL 4 (mh n).1]:=by unfold aH;rw[Ni];rfl
 rw[e];exact⟨dO _ _ 2 W 93 U _ [aL 3 n] q _ cc (by rw[Ni];rfl) mc (Lx ⟨a,b,c,d,q,H,g,u,m,G⟩ 3 n 0 [] [] [] [] c9),bX (S:=⟨a,b,c,d,q,H,g,u,m,G⟩) (eW (bz p) (iq cc (by rw[N];have:=O.1;show _<=(if n<0 then -n else n)/\(if n<0 then -n else n)<=_;split<;>constructor<;>(unfold bL at *;omega)) (λ_=>by rw[N];show 0<=(if n<0 then -n else n);split<;>omega))) hq⟩
def Oe(S:b9)(W:Int)(P:L UInt8)(J:L Nd)(Y s:L Ty)(r:L Ty×Bool)(hf:bJ 94 J=some Y)(V:dH s S.st)(B:s.length<=340)(N:r.1.all br=true)(A:bN 94 s=(r,0)):bf W P 94 J S/\bK S r (aH 94 J S):=by
 obtain⟨a,b,c,d,st,H,g,u,m,G⟩:=S;obtain⟨rfl,rfl⟩:=cC hf cc;have Q:=bF V;simp only at V Q;cases s with
 |nil=>cases A
 |cons t s =>
 obtain⟨v,q,rfl,O,hq⟩:=bh V;have M:=cN O.1;obtain⟨T,ts⟩:=t;simp only[aac]at Q B;have U:(if T=3 then dX (.mk 9 [.mk 4 []]::s)else aM 5)=(r,0):=A;split at U;rotate_left
 ·cases U
 rename_i K;subst K;cases U;obtain⟨n,rfl,g1⟩:=fy cc M.2.1;have I:=jd cc g1;unfold bf;by_cases p:n<0
 ·have e:aH 94 [] ⟨a,b,c,d,aL 3 n::q,H,g,u,m,G⟩=bp ⟨a,b,c,d,q,H,g,u,m,G⟩ [cw []]:=by
   unfold aH;rw[A6];show(if n<0 then bp ⟨a,b,c,d,q,H,g,u,m,G⟩ [cw []]else bp ⟨a,b,c,d,q,H,g,u,m,G⟩ [cw [aL 4 n]])=_;rw[if_pos p]
  rw[e];exact⟨dO _ _ 2 W 94 P _ [aL 3 n] q _ cc (by rw[A6];rfl) mc (Jb ⟨a,b,c,d,q,H,g,u,m,G⟩ 3 n 0 [] [] [] [] p c9),bX (S:=⟨a,b,c,d,q,H,g,u,m,G⟩) (eW (bz N) lU) hq⟩
 ·have e:aH 94 [] ⟨a,b,c,d,aL 3 n::q,H,g,u,m,G⟩=bp ⟨a,b,c,d,q,H,g,u,m,G⟩ [cw [aL 4 n]]:=by
   unfold aH;rw[A6];show(if n<0 then bp ⟨a,b,c,d,q,H,g,u,m,G⟩ [cw []]else bp ⟨a,b,c,d,q,H,g,u,m,G⟩ [cw [aL 4 n]])=_;rw[if_neg p]
  rw[e];exact⟨dO _ _ 2 W 94 P _ [aL 3 n] q _ cc (by rw[A6];rfl) mc (Jc ⟨a,b,c,d,q,H,g,u,m,G⟩ 3 n 0 [] [] [] [] p c9),bX (S:=⟨a,b,c,d,q,H,g,u,m,G⟩) (eW (bz N) (hD (iq cc I.1 (λ_=>by omega)))) hq⟩
def Of(S:b9)(W:Int)(U:L UInt8)(J:L Nd)(Y s:L Ty)(r:L Ty×Bool)(hf:bJ 95 J=some Y)(V:dH s S.st)(B:s.length<=340)(p:r.1.all br=true)(A:bN 95 s=(r,0)):bf W U 95 J S/\bK S r (aH 95 J S):=by
 obtain⟨a,b,c,d,st,H,g,u,m,G⟩:=S;obtain⟨rfl,rfl⟩:=cC hf cc;have Q:=bF V;simp only at V Q;cases s with
 |nil=>cases A
 |cons t s =>
 obtain⟨v,q,rfl,O,hq⟩:=bh V;have M:=cN O.1;obtain⟨T,ts⟩:=t;simp only[aac]at Q B;have P:(if T=4 then dX (.mk 3 []::s)else aM 5)=(r,0):=A;split at P;rotate_left
 ·cases P
 rename_i N;subst N;cases P;obtain⟨n,rfl,g1⟩:=fy cc M.2.1;have K:=jd cc g1;unfold bf;have e:aH 95 [] ⟨a,b,c,d,aL 4 n::q,H,g,u,m,G⟩=bp ⟨a,b,c,d,q,H,g,u,m,G⟩ [aL 3 n]:=by unfold aH;rw[Nj];rfl
 rw[e];exact⟨dO _ _ 2 W 95 U _ [aL 4 n] q _ cc (by rw[Nj];rfl) (by show List.length (aL 4 n::q)<=_;simp only[aac];omega) (Ly ⟨a,b,c,d,q,H,g,u,m,G⟩ 4 n 0 [] [] [] [] c9),bX (S:=⟨a,b,c,d,q,H,g,u,m,G⟩) (eW (bz p) (iq cc K.1 (λh=>absurd Z h))) hq⟩
def Oa(S:b9)(O:Int)(N:L UInt8)(D:L Nd)(W s:L Ty)(r:L Ty×Bool)(hf:bJ 70 D=some W)(M:dH s S.st)(hl:s.length<=340)(K:r.1.all br=true)(I:bN 70 s=(r,0)):bf O N 70 D S/\bK S r (aH 70 D S):=by
 obtain⟨a,b,c,d,st,H,g,u,m,G⟩:=S;obtain⟨rfl,rfl⟩:=cC hf cc;have C:=bF M;simp only at M C;rcases s with _|⟨t1,_|⟨t2,s⟩⟩
 ·cases I
 ·cases I
 obtain⟨v,q0,rfl,hv,qo⟩:=bh M;obtain⟨w,q,rfl,hw,hq⟩:=bh qo;have f1:=cN hv.1;have f2:=cN hw.1;obtain⟨P,Ee⟩:=t1;obtain⟨Y,AP⟩:=t2;simp only[aac]at C hl;have Q:(if mg 70 P Y=0 then aM 5 else if(70:Int)=70/\mg 70 P Y=5 then dX (.mk 9 [.mk 5 []]::s)else dX (.mk (mg 70 P Y) []::s))=(r,0):=I;split at Q
 ·cases Q
 rename_i c1;have V:(P=3\/P=4\/P=5)/\(Y=3\/Y=4\/Y=5)/\ofM 70 P Y=mg 70 P Y/\(mg 70 P Y=5/\P=5/\Y=5\/mg 70 P Y=3):=by
  rcases A7 c1 with ⟨rfl,rfl,h1⟩|⟨h1,⟨rfl,rfl⟩|⟨rfl,rfl⟩⟩|⟨h1,rfl,rfl⟩|⟨rfl|rfl,rfl|rfl⟩<;>first|decide|omega
 obtain⟨U,rfl,g1⟩:=fy (by have:=V.1;omega) f1.2.1;obtain⟨J,rfl,g2⟩:=fy (by have:=V.2.1;omega) f2.2.1;have B:=jd V.1 g1;have r2:=jd V.2.1 g2;unfold bf;by_cases E:sJ (U-J)=true;rotate_left
 ·have A:jn U J=(0,11):=by unfold jn;rw[if_pos ⟨gq.2 B.1,gq.2 r2.1⟩];unfold kz;rw[if_neg E]
  have e:aH 70 [] ⟨a,b,c,d,aL P U::aL Y J::q,H,g,u,m,G⟩=(11,⟨a,b,c,d,q,H,g,u,m,G⟩):=by
   unfold aH;rw[pV];show(if(jn U J).2≠0 then(((jn U J).2,⟨a,b,c,d,q,H,g,u,m,G⟩):MR)else if ofM 70 P Y=5 then(if(jn U J).1<0 then bp ⟨a,b,c,d,q,H,g,u,m,G⟩ [cw []]else bp ⟨a,b,c,d,q,H,g,u,m,G⟩ [cw [aL 5 (jn U J).1]])else bp ⟨a,b,c,d,q,H,g,u,m,G⟩ [aL (ofM 70 P Y) (jn U J).1])=_;rw[A];rfl
  rw[e];exact⟨dO _ _ 2 O 70 N _ [aL P U,aL Y J] q _ cc (by rw[pV];rfl) gB (CL ⟨a,b,c,d,q,H,g,u,m,G⟩ P U 0 [] [] [] [] Y J 0 [] [] [] [] 0 11 cc A c9),.inr (.inl Z)⟩
 have A:jn U J=(U-J,0):=by unfold jn;rw[if_pos ⟨gq.2 B.1,gq.2 r2.1⟩];unfold kz;rw[if_pos E]
 rcases V.2.2.2 with ⟨k5,rfl,rfl⟩|k3
 ·rw[if_pos ⟨Z,k5⟩]at Q;cases Q;have T:ofM 70 5 5=5:=by decide
  by_cases p:U-J<0
  ·have e:aH 70 [] ⟨a,b,c,d,aL 5 U::aL 5 J::q,H,g,u,m,G⟩=bp ⟨a,b,c,d,q,H,g,u,m,G⟩ [cw []]:=by
    unfold aH;rw[pV];show(if(jn U J).2≠0 then(((jn U J).2,⟨a,b,c,d,q,H,g,u,m,G⟩):MR)else if ofM 70 5 5=5 then(if(jn U J).1<0 then bp ⟨a,b,c,d,q,H,g,u,m,G⟩ [cw []]else bp ⟨a,b,c,d,q,H,g,u,m,G⟩ [cw [aL 5 (jn U J).1]])else bp ⟨a,b,c,d,q,H,g,u,m,G⟩ [aL (ofM 70 5 5) (jn U J).1])=_;rw[A,if_neg (λh=>h Z),if_pos T,if_pos p]
   rw[e];exact⟨dO _ _ 2 O 70 N _ [aL 5 U,aL 5 J] q _ cc (by rw[pV];rfl) u5 (CM ⟨a,b,c,d,q,H,g,u,m,G⟩ 5 U 0 [] [] [] [] 5 J 0 [] [] [] [] (U-J) T p A c9),bX (S:=⟨a,b,c,d,q,H,g,u,m,G⟩) (eW (bz K) lU) hq⟩
  ·have e:aH 70 [] ⟨a,b,c,d,aL 5 U::aL 5 J::q,H,g,u,m,G⟩=bp ⟨a,b,c,d,q,H,g,u,m,G⟩ [cw [aL 5 (U-J)]]:=by
    unfold aH;rw[pV];show(if(jn U J).2≠0 then(((jn U J).2,⟨a,b,c,d,q,H,g,u,m,G⟩):MR)else if ofM 70 5 5=5 then(if(jn U J).1<0 then bp ⟨a,b,c,d,q,H,g,u,m,G⟩ [cw []]else bp ⟨a,b,c,d,q,H,g,u,m,G⟩ [cw [aL 5 (jn U J).1]])else bp ⟨a,b,c,d,q,H,g,u,m,G⟩ [aL (ofM 70 5 5) (jn U J).1])=_;rw[A,if_neg (λh=>h Z),if_pos T,if_neg p]
   rw[e];exact⟨dO _ _ 2 O 70 N _ [aL 5 U,aL 5 J] q _ cc (by rw[pV];rfl) u5 (CN ⟨a,b,c,d,q,H,g,u,m,G⟩ 5 U 0 [] [] [] [] 5 J 0 [] [] [] [] (U-J) T p A c9),bX (S:=⟨a,b,c,d,q,H,g,u,m,G⟩) (eW (bz K) (hD (iq cc (gq.1 E) (λ_=>by omega)))) hq⟩
 ·rw[if_neg (λh=>by have:=h.2;omega)]at Q;cases Q;have T:ofM 70 P Y≠5:=by rw[V.2.2.1,k3];decide
  have e:aH 70 [] ⟨a,b,c,d,aL P U::aL Y J::q,H,g,u,m,G⟩=bp ⟨a,b,c,d,q,H,g,u,m,G⟩ [aL (ofM 70 P Y) (U-J)]:=by
   unfold aH;rw[pV];show(if(jn U J).2≠0 then(((jn U J).2,⟨a,b,c,d,q,H,g,u,m,G⟩):MR)else if ofM 70 P Y=5 then(if(jn U J).1<0 then bp ⟨a,b,c,d,q,H,g,u,m,G⟩ [cw []]else bp ⟨a,b,c,d,q,H,g,u,m,G⟩ [cw [aL 5 (jn U J).1]])else bp ⟨a,b,c,d,q,H,g,u,m,G⟩ [aL (ofM 70 P Y) (jn U J).1])=_;rw[A,if_neg (λh=>h Z),if_neg T]
  rw[e];exact⟨dO _ _ 2 O 70 N _ [aL P U,aL Y J] q _ cc (by rw[pV];rfl) gB (CO ⟨a,b,c,d,q,H,g,u,m,G⟩ P U 0 [] [] [] [] Y J 0 [] [] [] [] (U-J) T A c9),bX (S:=⟨a,b,c,d,q,H,g,u,m,G⟩) (eW (bz K) (by rw[V.2.2.1,k3];exact iq cc (gq.1 E) (λh=>absurd Z h))) hq⟩
def RC{a b:Int}(W : -bL<=a/\a<=bL)(A : -bL<=b/\b<=bL)(p:b≠0):(-bL<=a/b/\a/b<=bL)/\(-bL<=a%b/\a%b<=bL)/\0<=a%b/\(0<=a->0<=b->0<=a/b):=by
 have Q:=Int.natAbs_ediv_le_natAbs a b;have V:=Int.emod_nonneg a p;have N:=Int.emod_lt a p;refine⟨by unfold bL at *;omega,by unfold bL at *;omega,V,λh1 h2=>Int.ediv_nonneg h1 h2⟩
def Oc(S:b9)(T:Int)(W:L UInt8)(D:L Nd)(V s:L Ty)(r:L Ty×Bool)(hf:bJ 72 D=some V)(E:dH s S.st)(hl:s.length<=340)(p:r.1.all br=true)(C:bN 72 s=(r,0)):bf T W 72 D S/\bK S r (aH 72 D S):=by
 obtain⟨a,b,c,d,st,H,g,u,m,G⟩:=S;obtain⟨rfl,rfl⟩:=cC hf cc;have eu:=bF E;simp only at E eu;rcases s with _|⟨t1,_|⟨t2,s⟩⟩
 ·cases C
 ·cases C
 obtain⟨v,q0,rfl,hv,Z9⟩:=bh E;obtain⟨w,q,rfl,hw,hq⟩:=bh Z9;have f1:=cN hv.1;have f2:=cN hw.1;obtain⟨P,Ee⟩:=t1;obtain⟨Y,AP⟩:=t2;simp only[aac]at eu hl;have B:(if mg 72 P Y=0 then aM 5 else dX (.mk 9 [.mk 11 [.mk (if P=5/\Y=5 then 4 else mg 72 P Y) [],.mk (if P=5 then 5 else 4) []]]::s))=(r,0):=C;split at B
 ·cases B
 rename_i c1;cases B;have M:(P=3\/P=4\/P=5)/\(Y=3\/Y=4\/Y=5):=by
  rcases A7 c1 with ⟨rfl,rfl,h1⟩|⟨h1,⟨rfl,rfl⟩|⟨rfl,rfl⟩⟩|⟨h1,rfl,rfl⟩|⟨rfl|rfl,rfl|rfl⟩<;>first|decide|omega
 obtain⟨U,rfl,g1⟩:=fy (by have:=M.1;omega) f1.2.1;obtain⟨J,rfl,g2⟩:=fy (by have:=M.2;omega) f2.2.1;have K:=jd M.1 g1;have I:=jd M.2 g2;unfold bf;by_cases hz:J=0
 ·have A:gf U J=(0,0,6):=by unfold gf;rw[if_pos ⟨gq.2 K.1,gq.2 I.1⟩,if_pos hz]
  have e:aH 72 [] ⟨a,b,c,d,aL P U::aL Y J::q,H,g,u,m,G⟩=bp ⟨a,b,c,d,q,H,g,u,m,G⟩ [cw []]:=by
   unfold aH;rw[jA];show(if(gf U J).2.2≠0 then bp ⟨a,b,c,d,q,H,g,u,m,G⟩ [cw []]else bp ⟨a,b,c,d,q,H,g,u,m,G⟩ [cw [bt (aL (if ofM 72 P Y=5/\Y=5 then 4 else ofM 72 P Y) (gf U J).1) (aL (if ofM 72 P Y=5 then 5 else 4) (gf U J).2.1)]])=_;rw[A];rfl
  rw[e];exact⟨dO _ _ 2 T 72 W _ [aL P U,aL Y J] q _ cc Wf gB (kX ⟨a,b,c,d,q,H,g,u,m,G⟩ P U 0 [] [] [] [] Y J 0 [] [] [] [] _ (Lw ⟨a,b,c,d,q,H,g,u,m,G⟩ (ofM 72 P Y) P U 0 [] [] [] [] Y J 0 [] [] [] [] 0 0 6 cc A c9)),bX (S:=⟨a,b,c,d,q,H,g,u,m,G⟩) (eW (bz p) lU) hq⟩
 have A:gf U J=(U/J,U%J,0):=by unfold gf;rw[if_pos ⟨gq.2 K.1,gq.2 I.1⟩,if_neg hz]
 obtain⟨Q,O,N,qo⟩:=RC K.1 I.1 hz;have p1:=K.2;have p2:=I.2;rcases A7 c1 with ⟨rfl,rfl,h1⟩|⟨h1,_⟩|⟨h1,rfl,rfl⟩|aaa
 ·have e:aH 72 [] ⟨a,b,c,d,aL 5 U::aL 5 J::q,H,g,u,m,G⟩=bp ⟨a,b,c,d,q,H,g,u,m,G⟩ [cw [bt (aL 4 (U/J)) (aL 5 (U%J))]]:=by
   unfold aH;rw[jA];show(if(gf U J).2.2≠0 then bp ⟨a,b,c,d,q,H,g,u,m,G⟩ [cw []]else bp ⟨a,b,c,d,q,H,g,u,m,G⟩ [cw [bt (aL (if ofM 72 5 5=5/\5=5 then 4 else ofM 72 5 5) (gf U J).1) (aL (if ofM 72 5 5=5 then 5 else 4) (gf U J).2.1)]])=_;rw[A,if_neg (λh=>h Z)];rfl
  rw[e];exact⟨dO _ _ 2 T 72 W _ [aL 5 U,aL 5 J] q _ cc Wf u5 (kX ⟨a,b,c,d,q,H,g,u,m,G⟩ 5 U 0 [] [] [] [] 5 J 0 [] [] [] [] _ (Ou ⟨a,b,c,d,q,H,g,u,m,G⟩ (ofM 72 5 5) 5 U 0 [] [] [] [] 5 J 0 [] [] [] [] (U/J) (U%J) cc Z A c9)),bX (S:=⟨a,b,c,d,q,H,g,u,m,G⟩) (eW (bz p) (hD (jR (iq cc Q (λ_=>qo (p1 cc) (p2 cc))) (iq cc O (λ_=>N))))) hq⟩
 ·omega
 ·have e:aH 72 [] ⟨a,b,c,d,aL 5 U::aL 4 J::q,H,g,u,m,G⟩=bp ⟨a,b,c,d,q,H,g,u,m,G⟩ [cw [bt (aL 5 (U/J)) (aL 5 (U%J))]]:=by
   unfold aH;rw[jA];show(if(gf U J).2.2≠0 then bp ⟨a,b,c,d,q,H,g,u,m,G⟩ [cw []]else bp ⟨a,b,c,d,q,H,g,u,m,G⟩ [cw [bt (aL (if ofM 72 5 4=5/\4=5 then 4 else ofM 72 5 4) (gf U J).1) (aL (if ofM 72 5 4=5 then 5 else 4) (gf U J).2.1)]])=_;rw[A,if_neg (λh=>h Z)];rfl
  rw[e];exact⟨dO _ _ 2 T 72 W _ [aL 5 U,aL 4 J] q _ cc Wf (by show List.length (aL 5 U::aL 4 J::q)<=_;simp only[aac];omega) (kX ⟨a,b,c,d,q,H,g,u,m,G⟩ 5 U 0 [] [] [] [] 4 J 0 [] [] [] [] _ (Rr ⟨a,b,c,d,q,H,g,u,m,G⟩ (ofM 72 5 4) 5 U 0 [] [] [] [] 4 J 0 [] [] [] [] (U/J) (U%J) cc cc A c9)),bX (S:=⟨a,b,c,d,q,H,g,u,m,G⟩) (eW (bz p) (hD (jR (iq cc Q (λ_=>qo (p1 cc) (p2 cc))) (iq cc O (λ_=>N))))) hq⟩
 ·rcases aaa with ⟨rfl|rfl,rfl|rfl⟩
  ·have e:aH 72 [] ⟨a,b,c,d,aL 3 U::aL 3 J::q,H,g,u,m,G⟩=bp ⟨a,b,c,d,q,H,g,u,m,G⟩ [cw [bt (aL 3 (U/J)) (aL 4 (U%J))]]:=by
    unfold aH;rw[jA];show(if(gf U J).2.2≠0 then bp ⟨a,b,c,d,q,H,g,u,m,G⟩ [cw []]else bp ⟨a,b,c,d,q,H,g,u,m,G⟩ [cw [bt (aL (if ofM 72 3 3=5/\3=5 then 4 else ofM 72 3 3) (gf U J).1) (aL (if ofM 72 3 3=5 then 5 else 4) (gf U J).2.1)]])=_;rw[A,if_neg (λh=>h Z)];rfl
   rw[e];exact⟨dO _ _ 2 T 72 W _ [aL 3 U,aL 3 J] q _ cc Wf (by show List.length (aL 3 U::aL 3 J::q)<=_;simp only[aac];omega) (kX ⟨a,b,c,d,q,H,g,u,m,G⟩ 3 U 0 [] [] [] [] 3 J 0 [] [] [] [] _ (xU ⟨a,b,c,d,q,H,g,u,m,G⟩ (ofM 72 3 3) 3 U 0 [] [] [] [] 3 J 0 [] [] [] [] (U/J) (U%J) cc A c9)),bX (S:=⟨a,b,c,d,q,H,g,u,m,G⟩) (eW (bz p) (hD (jR (iq cc Q (λh=>absurd Z h)) (iq cc O (λ_=>N))))) hq⟩
  ·have e:aH 72 [] ⟨a,b,c,d,aL 3 U::aL 4 J::q,H,g,u,m,G⟩=bp ⟨a,b,c,d,q,H,g,u,m,G⟩ [cw [bt (aL 3 (U/J)) (aL 4 (U%J))]]:=by
    unfold aH;rw[jA];show(if(gf U J).2.2≠0 then bp ⟨a,b,c,d,q,H,g,u,m,G⟩ [cw []]else bp ⟨a,b,c,d,q,H,g,u,m,G⟩ [cw [bt (aL (if ofM 72 3 4=5/\4=5 then 4 else ofM 72 3 4) (gf U J).1) (aL (if ofM 72 3 4=5 then 5 else 4) (gf U J).2.1)]])=_;rw[A,if_neg (λh=>h Z)];rfl
   rw[e];exact⟨dO _ _ 2 T 72 W _ [aL 3 U,aL 4 J] q _ cc Wf (by show List.length (aL 3 U::aL 4 J::q)<=_;simp only[aac];omega) (kX ⟨a,b,c,d,q,H,g,u,m,G⟩ 3 U 0 [] [] [] [] 4 J 0 [] [] [] [] _ (xU ⟨a,b,c,d,q,H,g,u,m,G⟩ (ofM 72 3 4) 3 U 0 [] [] [] [] 4 J 0 [] [] [] [] (U/J) (U%J) cc A c9)),bX (S:=⟨a,b,c,d,q,H,g,u,m,G⟩) (eW (bz p) (hD (jR (iq cc Q (λh=>absurd Z h)) (iq cc O (λ_=>N))))) hq⟩
  ·have e:aH 72 [] ⟨a,b,c,d,aL 4 U::aL 3 J::q,H,g,u,m,G⟩=bp ⟨a,b,c,d,q,H,g,u,m,G⟩ [cw [bt (aL 3 (U/J)) (aL 4 (U%J))]]:=by
    unfold aH;rw[jA];show(if(gf U J).2.2≠0 then bp ⟨a,b,c,d,q,H,g,u,m,G⟩ [cw []]else bp ⟨a,b,c,d,q,H,g,u,m,G⟩ [cw [bt (aL (if ofM 72 4 3=5/\3=5 then 4 else ofM 72 4 3) (gf U J).1) (aL (if ofM 72 4 3=5 then 5 else 4) (gf U J).2.1)]])=_;rw[A,if_neg (λh=>h Z)];rfl
   rw[e];exact⟨dO _ _ 2 T 72 W _ [aL 4 U,aL 3 J] q _ cc Wf (by show List.length (aL 4 U::aL 3 J::q)<=_;simp only[aac];omega) (kX ⟨a,b,c,d,q,H,g,u,m,G⟩ 4 U 0 [] [] [] [] 3 J 0 [] [] [] [] _ (xU ⟨a,b,c,d,q,H,g,u,m,G⟩ (ofM 72 4 3) 4 U 0 [] [] [] [] 3 J 0 [] [] [] [] (U/J) (U%J) cc A c9)),bX (S:=⟨a,b,c,d,q,H,g,u,m,G⟩) (eW (bz p) (hD (jR (iq cc Q (λh=>absurd Z h)) (iq cc O (λ_=>N))))) hq⟩
  ·have e:aH 72 [] ⟨a,b,c,d,aL 4 U::aL 4 J::q,H,g,u,m,G⟩=bp ⟨a,b,c,d,q,H,g,u,m,G⟩ [cw [bt (aL 4 (U/J)) (aL 4 (U%J))]]:=by
    unfold aH;rw[jA];show(if(gf U J).2.2≠0 then bp ⟨a,b,c,d,q,H,g,u,m,G⟩ [cw []]else bp ⟨a,b,c,d,q,H,g,u,m,G⟩ [cw [bt (aL (if ofM 72 4 4=5/\4=5 then 4 else ofM 72 4 4) (gf U J).1) (aL (if ofM 72 4 4=5 then 5 else 4) (gf U J).2.1)]])=_;rw[A,if_neg (λh=>h Z)];rfl
   rw[e];exact⟨dO _ _ 2 T 72 W _ [aL 4 U,aL 4 J] q _ cc Wf (by show List.length (aL 4 U::aL 4 J::q)<=_;simp only[aac];omega) (kX ⟨a,b,c,d,q,H,g,u,m,G⟩ 4 U 0 [] [] [] [] 4 J 0 [] [] [] [] _ (xU ⟨a,b,c,d,q,H,g,u,m,G⟩ (ofM 72 4 4) 4 U 0 [] [] [] [] 4 J 0 [] [] [] [] (U/J) (U%J) cc A c9)),bX (S:=⟨a,b,c,d,q,H,g,u,m,G⟩) (eW (bz p) (hD (jR (iq cc Q (λ_=>qo (p1 cc) (p2 cc))) (iq cc O (λ_=>N))))) hq⟩
end Go.Proofs
