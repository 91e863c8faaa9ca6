/- Package run: -/
import Derived.Test.YtdnpapgijbhofaaGreatDoorChn2
set_option linter.defProp false
set_option linter.unusedVariables false
set_option linter.unusedSimpArgs false
set_option maxRecDepth 100000
namespace Go.Proofs
open Go.cw
def An(S:bZ)(F:iR)(t:List iR):MR :=
 if F.pos=F.code.length then oP S F t
 else match F.code[F.pos]? with
  |none=>(14,S)
  |some (.mk Y N P s M) =>
   if Y=3 then(0,ee (jb S F t) M 0 [])
   else if Y≠2 then(14,jb S F t)
   else if S.bU<=S.used then(12,jb S F t)
   else aE P M {jb S F t with used:=S.used+1}
def Vy{S:bZ}(k:Nat)(h:S.fr=[]):l8 (k+1) S=(0,S):=by simp only[l8,h]
def aiP(k:Nat)(o:MR):MR:=if o.1=0 then l8 k o.2 else o
def Sa{S:bZ}{F:iR}{t:List iR}(k:Nat)(h:S.fr=F::t):l8 (k+1) S=aiP k (An S F t):=by
 simp only[l8,h];unfold An;by_cases B:F.pos=F.code.length;rw[if_pos B,if_pos B];rfl;rw[if_neg B,if_neg B];cases H:F.code[F.pos]? with
 |none=>rfl
 |some n =>
  obtain⟨Y,N,P,s,M⟩:=n;dsimp only;by_cases T:Y=3;rw[if_pos T,if_pos T];rfl;rw[if_neg T,if_neg T];by_cases K:Y≠2;rw[if_pos K,if_pos K];rfl;rw[if_neg K,if_neg K];by_cases G:S.bU<=S.used;rw[if_pos G,if_pos G];rfl;rw[if_neg G,if_neg G];rfl
def Sb{S:bZ}{F:iR}{t:List iR}(k:Nat)(h:S.fr=F::t):l8 (k+1) S=if(An S F t).1=0 then l8 k (An S F t).2 else An S F t:=Sa k h
def Sc{V:L Ty×Bool}{S:bZ}{s:L Ty}{F:iR}{t:List iR}(C:MT V S s)(h:S.fr=F::t)(Q:left S<=1000000000):R8 V S (An S F t):=by
 unfold An;by_cases A:F.pos=F.code.length;rw[if_pos A];exact(Ch C h A).2.2;rw[if_neg A];have W:=C.ft;rw[h]at W;have O:=W;obtain⟨D,E,q,_⟩:=O;have G:F.pos<F.code.length:=by omega
 have B:F.code[F.pos]?=some F.code[F.pos]:=aeL G;generalize F.code[F.pos]=n at B;obtain⟨Y,N,P,u,M⟩:=n;rw[B];dsimp only;by_cases T:Y=3;rw[if_pos T];subst T;obtain⟨K,J,I⟩:=Pf C h B;exact⟨K,C.used,C.abe,.inl ⟨Z,s,J,I⟩⟩;have H:Y=2:=by obtain⟨r,h1,_⟩:=Cj W B;simp only[fZ]at h1;rw[if_neg T]at h1;apply agq;intro c;rw[if_pos c]at h1;cases h1
 subst H;have mz:=C.used;by_cases U:S.bU<=S.used;rw[if_pos U];exact⟨⟨Z,Z,Z,Z,Z⟩,C.used,C.abe,.inr (.inr (.inr (.inl ⟨Z,by show S.used=S.bU;omega⟩)))⟩;rw[if_neg U];exact(J7 C h B ai Q).2.1
def abf{C:L Ty×Bool}{S:bZ}{o:MR}(h:R8 C S o)(Y:o.1=0):∃O,MT C o.2 O/\left o.2<left S:=by obtain⟨_,_,_,W⟩:=h;simp_all
abbrev aiQ(g:Int)(S:bZ):bZ:={S with bU:=g}
abbrev alR(g:Int)(o:MR):MR:=(o.1,aiQ g o.2)
end Go.Proofs
