/- What world of package check answers. -/
import Derived.Test.YteanleefnjknoaaGreatDoorChk3
open Go.Proofs.Tryz
set_option linter.defProp false
set_option maxHeartbeats 0
set_option linter.unusedVariables false
set_option linter.unusedSimpArgs false
set_option maxRecDepth 100000
namespace Go.Proofs
open Go.cK
attribute [local irreducible] AK af bg cn aP fY mH gW iT bB cE fD bf jN gD
def Jj(P:Int)(J:L Nd)(B s:L Ty)(A:84<=P/\P<=92)(hf:bW P J=some B)(G:rJ s)(hl:s.length<=9999999990):ah 77 [.int .i64 P,.sl 2 (aA B),.sl 2 (aA s)] (jF (cg P B s)):=by
 have u:P=84\/P=85\/P=86\/P=87\/P=88\/P=89\/P=90\/P=91\/P=92:=by omega
 clear A;rcases u with rfl|rfl|rfl|rfl|rfl|rfl|rfl|rfl|rfl
 ·obtain⟨rfl,rfl⟩:=dN hf rfl;clear hf;rcases s with _|⟨⟨T,us⟩,_|⟨⟨U,vs⟩,q⟩⟩
  ·have D:=aq ([]) [0,4];rw[show gR ([]) [0,4]=false from by(simp[bZ,b8,aY])<;>assumption]at D;rw[show cg 84 ([]) ([])=aR 5 from by simp[cg,bS,aE,au,aaf,aag,aV]];rw[aD bT];refine qn func77 call77 λβ hf=>?_;exact dw
  ·have D:=aq ([.mk T us]) [0,4];rw[show gR ([.mk T us]) [0,4]=false from by(simp[bZ,b8,aY])<;>assumption]at D;rw[show cg 84 ([]) ([.mk T us])=aR 5 from by simp[cg,bS,aE,au,aaf,aag,aV]];rw[aD bT];refine qn func77 call77 λβ hf=>?_;exact dw
  have h2:=lT (.mk T us) lf;by_cases K:U=4
  ·subst K;have D:=aq (.mk T us :: .mk 4 vs::q) [0,4];rw[show gR (.mk T us :: .mk 4 vs::q) [0,4]=true from by(simp[bZ,b8,aY])<;>assumption]at D;cases H:fY (.mk T us)
   ·rw[H]at h2;rw[show cg 84 ([]) (.mk T us :: .mk 4 vs::q)=aR 5 from by simp[cg,bS,aE,au,aaf,aag,aV,H]];rw[aD bT];refine qn func77 call77 λβ hf=>?_;exact dw
   ·rw[H]at h2;have S:=bE (q) [.mk 9 [.mk 15 [.mk T us]]];rw[aI]at S;rw[show cg 84 ([]) (.mk T us :: .mk 4 vs::q)=eT (.mk 9 [.mk 15 [.mk T us]]::q)from by simp[cg,bS,aE,au,aaf,aag,aV,H]];rw[aI];refine qn func77 call77 λβ hf=>?_;have vV:=dM 15 [.mk T us];have Ep:=dM 9 [.mk 15 [.mk T us]];exact dw
  ·have D:=aq (.mk T us :: .mk U vs::q) [0,4];rw[show gR (.mk T us :: .mk U vs::q) [0,4]=false from by(simp[bZ,b8,aY,K])<;>assumption]at D;rw[show cg 84 ([]) (.mk T us :: .mk U vs::q)=aR 5 from by simp[cg,bS,aE,au,aaf,aag,aV,K]];rw[aD bT];refine qn func77 call77 λβ hf=>?_;exact dw
 ·obtain⟨rfl,rfl⟩:=dN hf rfl;clear hf;rcases s with _|⟨⟨T,us⟩,r⟩
  ·have D:=aq ([]) [15];rw[show gR ([]) [15]=false from by(simp[bZ,b8,aY])<;>assumption]at D;rw[show cg 85 ([]) ([])=aR 5 from by simp[cg,bS,aE,au,aaf,aag,aV]];rw[aD bT];refine qn func77 call77 λβ hf=>?_;exact dw
  by_cases O:T=15
  ·subst O;obtain⟨⟨X,xs⟩,rfl,hx⟩:=fJ (G _ (agj ..)) rfl;have D:=aq (.mk 15 [.mk X xs]::r) [15];rw[show gR (.mk 15 [.mk X xs]::r) [15]=true from by(simp[bZ,b8,aY])<;>assumption]at D;have S:=bE (.mk 15 [.mk X xs]::r) [.mk 11 [.mk 7 [],.mk 11 [.mk X xs,.mk 4 []]]];rw[aI]at S;rw[show cg 85 ([]) (.mk 15 [.mk X xs]::r)=eT (.mk 11 [.mk 7 [],.mk 11 [.mk X xs,.mk 4 []]] :: .mk 15 [.mk X xs]::r)from by simp[cg,bS,aE,au,aaf,aag,aV]];rw[aI];refine qn func77 call77 λβ hf=>?_;have Ji:=cZ 7;have Lr:=cZ 4;have Ls:=dM 11 [.mk X xs,.mk 4 []];have OT:=dM 11 [.mk 7 [],.mk 11 [.mk X xs,.mk 4 []]];exact dw
  ·have D:=aq (.mk T us::r) [15];rw[show gR (.mk T us::r) [15]=false from by(simp[bZ,b8,aY,O])<;>assumption]at D;rw[show cg 85 ([]) (.mk T us::r)=aR 5 from by simp[cg,bS,aE,au,aaf,aag,aV,O]];rw[aD bT];refine qn func77 call77 λβ hf=>?_;exact dw
 ·obtain⟨rfl,rfl⟩:=dN hf rfl;clear hf;rcases s with _|⟨⟨T,us⟩,_|⟨⟨U,vs⟩,q⟩⟩
  ·have D:=aq ([]) [15,11];rw[show gR ([]) [15,11]=false from by(simp[bZ,b8,aY])<;>assumption]at D;rw[show cg 86 ([]) ([])=aR 5 from by simp[cg,bS,aE,au,aaf,aag,aV]];rw[aD bT];refine qn func77 call77 λβ hf=>?_;exact dw
  ·have D:=aq ([.mk T us]) [15,11];rw[show gR ([.mk T us]) [15,11]=false from by(simp[bZ,b8,aY])<;>assumption]at D;rw[show cg 86 ([]) ([.mk T us])=aR 5 from by simp[cg,bS,aE,au,aaf,aag,aV]];rw[aD bT];refine qn func77 call77 λβ hf=>?_;exact dw
  by_cases O:T=15/\U=11
  ·obtain⟨rfl,rfl⟩:=O;obtain⟨⟨X,xs⟩,⟨Y,Q⟩,rfl,hx,hy⟩:=fz (G (.mk 11 vs) cS) rfl;have D:=aq (.mk 15 us :: .mk 11 [.mk X xs,.mk Y Q]::q) [15,11];rw[show gR (.mk 15 us :: .mk 11 [.mk X xs,.mk Y Q]::q) [15,11]=true from by(simp[bZ,b8,aY])<;>assumption]at D;by_cases hX:X=4
   ·subst hX;by_cases I:Y=4
    ·subst I;have S:=bE (q) [.mk 9 [.mk 11 [.mk 15 us,.mk 15 us]]];rw[aI]at S;rw[show cg 86 ([]) (.mk 15 us :: .mk 11 [.mk 4 xs,.mk 4 Q]::q)=eT (.mk 9 [.mk 11 [.mk 15 us,.mk 15 us]]::q)from by simp[cg,bS,aE,au,aaf,aag,aV]];rw[aI];refine qn func77 call77 λβ hf=>?_;have US:=dM 11 [.mk 15 us,.mk 15 us];have X8:=dM 9 [.mk 11 [.mk 15 us,.mk 15 us]];exact dw
    ·have C:(Y==4)=false:=by simpa using I
     rw[show cg 86 ([]) (.mk 15 us :: .mk 11 [.mk 4 xs,.mk Y Q]::q)=aR 5 from by simp[cg,bS,aE,au,aaf,aag,aV,I]];rw[aD bT];refine qn func77 call77 λβ hf=>?_;exact dw
   ·have C:(X==4)=false:=by simpa using hX
    rw[show cg 86 ([]) (.mk 15 us :: .mk 11 [.mk X xs,.mk Y Q]::q)=aR 5 from by simp[cg,bS,aE,au,aaf,aag,aV,hX]];rw[aD bT];refine qn func77 call77 λβ hf=>?_;exact dw
  ·have E:T=15->¬U=11:=λa b=>O ⟨a,b⟩;have D:=aq (.mk T us :: .mk U vs::q) [15,11];rw[show gR (.mk T us :: .mk U vs::q) [15,11]=false from by(simp[bZ,b8,aY,E])<;>assumption]at D;have M:¬(T=15/\U=11/\bS (vs.getD 0 kX)=4/\bS (vs.getD 1 kX)=4):=λh=>O ⟨h.1,h.2.1⟩;rw[show cg 86 ([]) (.mk T us :: .mk U vs::q)=aR 5 from by unfold cg;rw[if_neg bT,if_neg bT];dsimp only;rw[if_neg bT,if_neg bT,if_pos rfl];exact if_neg M,aD bT];refine qn func77 call77 λβ hf=>?_;exact dw
 ·obtain⟨rfl,rfl⟩:=dN hf rfl;clear hf;rcases s with _|⟨⟨T,us⟩,r⟩
  ·have D:=aq ([]) [11];rw[show gR ([]) [11]=false from by(simp[bZ,b8,aY])<;>assumption]at D;rw[show cg 87 ([]) ([])=aR 5 from by simp[cg,bS,aE,au,aaf,aag,aV]];rw[aD bT];refine qn func77 call77 λβ hf=>?_;exact dw
  by_cases O:T=11
  ·subst O;obtain⟨⟨X,xs⟩,⟨Y,Q⟩,rfl,hx,hy⟩:=fz (G (.mk 11 us) cS) rfl;have D:=aq (.mk 11 [.mk X xs,.mk Y Q]::r) [11];rw[show gR (.mk 11 [.mk X xs,.mk Y Q]::r) [11]=true from by(simp[bZ,b8,aY])<;>assumption]at D;have Re:=hx.2;have h1:=gU (.mk X xs) (.mk Y Q) bn;by_cases hX:X=15
   ·subst hX;cases g1:dh (.mk 15 xs) (.mk Y Q)
    ·rw[g1]at h1;rw[show cg 87 ([]) (.mk 11 [.mk 15 xs,.mk Y Q]::r)=aR 5 from by simp[cg,bS,aE,au,aaf,aag,aV,g1]];rw[aD bT];refine qn func77 call77 λβ hf=>?_;exact dw
    ·rw[g1]at h1;have S:=bE (r) [.mk 9 [.mk 15 xs]];rw[aI]at S;rw[show cg 87 ([]) (.mk 11 [.mk 15 xs,.mk Y Q]::r)=eT (.mk 9 [.mk 15 xs]::r)from by simp[cg,bS,aE,au,aaf,aag,aV,g1]];rw[aI];refine qn func77 call77 λβ hf=>?_;have acu:=dM 9 [.mk 15 xs];exact dw
   ·have C:(X==15)=false:=by simpa using hX
    rw[show cg 87 ([]) (.mk 11 [.mk X xs,.mk Y Q]::r)=aR 5 from by simp[cg,bS,aE,au,aaf,aag,aV,hX]];rw[aD bT];refine qn func77 call77 λβ hf=>?_;exact dw
  ·have D:=aq (.mk T us::r) [11];rw[show gR (.mk T us::r) [11]=false from by(simp[bZ,b8,aY,O])<;>assumption]at D;rw[show cg 87 ([]) (.mk T us::r)=aR 5 from by simp[cg,bS,aE,au,aaf,aag,aV,O]];rw[aD bT];refine qn func77 call77 λβ hf=>?_;exact dw
 ·obtain⟨x0,t,rfl,rfl,ht⟩:=xP hf rfl;clear hf;have ZU:=ht.2;obtain⟨V,p⟩:=t;rcases s with _|⟨⟨T,us⟩,_|⟨⟨U,vs⟩,_|⟨⟨W,N⟩,q⟩⟩⟩
  ·have D:=aq ([]) [0,5,7];rw[show gR ([]) [0,5,7]=false from by(simp[bZ,b8,aY])<;>assumption]at D;rw[show cg 88 ([.mk V p]) ([])=aR 5 from by simp[cg,bS,aE,au,aaf,aag,aV]];rw[aD bT];refine qn func77 call77 λβ hf=>?_;exact dw
  ·have D:=aq ([.mk T us]) [0,5,7];rw[show gR ([.mk T us]) [0,5,7]=false from by(simp[bZ,b8,aY])<;>assumption]at D;rw[show cg 88 ([.mk V p]) ([.mk T us])=aR 5 from by simp[cg,bS,aE,au,aaf,aag,aV]];rw[aD bT];refine qn func77 call77 λβ hf=>?_;exact dw
  ·have D:=aq ([.mk T us,.mk U vs]) [0,5,7];rw[show gR ([.mk T us,.mk U vs]) [0,5,7]=false from by(simp[bZ,b8,aY])<;>assumption]at D;rw[show cg 88 ([.mk V p]) ([.mk T us,.mk U vs])=aR 5 from by simp[cg,bS,aE,au,aaf,aag,aV]];rw[aD bT];refine qn func77 call77 λβ hf=>?_;exact dw
  have h1:=gU (.mk T us) (.mk V p) lf;have h2:=qa (.mk T us) lf;by_cases K:U=5/\W=7
  ·obtain⟨rfl,rfl⟩:=K;have D:=aq (.mk T us :: .mk 5 vs :: .mk 7 N::q) [0,5,7];rw[show gR (.mk T us :: .mk 5 vs :: .mk 7 N::q) [0,5,7]=true from by(simp[bZ,b8,aY])<;>assumption]at D;cases g1:dh (.mk T us) (.mk V p)
   ·rw[g1]at h1;rw[show cg 88 ([.mk V p]) (.mk T us :: .mk 5 vs :: .mk 7 N::q)=aR 5 from by simp[cg,bS,aE,au,aaf,aag,aV,g1]];rw[aD bT];refine qn func77 call77 λβ hf=>?_;exact dw
   cases H:iT (.mk T us)
   ·rw[g1]at h1;rw[H]at h2;rw[show cg 88 ([.mk V p]) (.mk T us :: .mk 5 vs :: .mk 7 N::q)=aR 5 from by simp[cg,bS,aE,au,aaf,aag,aV,g1,H]];rw[aD bT];refine qn func77 call77 λβ hf=>?_;exact dw
   ·rw[g1]at h1;rw[H]at h2;have S:=bE (q) [.mk 8 []];rw[aI]at S;rw[show cg 88 ([.mk V p]) (.mk T us :: .mk 5 vs :: .mk 7 N::q)=eT (.mk 8 []::q)from by simp[cg,bS,aE,au,aaf,aag,aV,g1,H]];rw[aI];refine qn func77 call77 λβ hf=>?_;have ZQ:=cZ 8;exact dw
  ·have E:U=5->¬W=7:=λa b=>K ⟨a,b⟩;have D:=aq (.mk T us :: .mk U vs :: .mk W N::q) [0,5,7];rw[show gR (.mk T us :: .mk U vs :: .mk W N::q) [0,5,7]=false from by(simp[bZ,b8,aY,E])<;>assumption]at D;have M:¬(U=5/\W=7/\dh (.mk T us) (.mk V p)=true/\iT (.mk T us)=true):=λh=>K ⟨h.1,h.2.1⟩;rw[show cg 88 ([.mk V p]) (.mk T us :: .mk U vs :: .mk W N::q)=aR 5 from by unfold cg;rw[if_neg bT,if_neg bT];dsimp only;rw[if_neg bT,if_neg bT,if_neg bT,if_neg bT,if_pos rfl];exact if_neg M,aD bT];refine qn func77 call77 λβ hf=>?_;exact dw
 ·obtain⟨rfl,rfl⟩:=dN hf rfl;clear hf;have S:=bE (s) [.mk 7 []];rw[aI]at S;rw[show cg 89 ([]) (s)=eT (.mk 7 []::s)from by simp[cg,bS,aE,au,aaf,aag,aV]];rw[aI];refine qn func77 call77 λβ hf=>?_;have ZR:=cZ 7;exact dw
 ·obtain⟨rfl,rfl⟩:=dN hf rfl;clear hf;have S:=bE (s) [.mk 7 []];rw[aI]at S;rw[show cg 90 ([]) (s)=eT (.mk 7 []::s)from by simp[cg,bS,aE,au,aaf,aag,aV]];rw[aI];refine qn func77 call77 λβ hf=>?_;have ZT:=cZ 7;exact dw
 ·obtain⟨rfl,rfl⟩:=dN hf rfl;clear hf;have S:=bE (s) [.mk 5 []];rw[aI]at S;rw[show cg 91 ([]) (s)=eT (.mk 5 []::s)from by simp[cg,bS,aE,au,aaf,aag,aV]];rw[aI];refine qn func77 call77 λβ hf=>?_;have acv:=cZ 5;exact dw
 ·obtain⟨rfl,rfl⟩:=dN hf rfl;clear hf;have S:=bE (s) [.mk 5 []];rw[aI]at S;rw[show cg 92 ([]) (s)=eT (.mk 5 []::s)from by simp[cg,bS,aE,au,aaf,aag,aV]];rw[aI];refine qn func77 call77 λβ hf=>?_;have acw:=cZ 5;exact dw
end Go.Proofs
namespace Go.Proofs
open Go.cK
attribute [local irreducible] AK af bg cn aP fY mH gW iT bB cE fD bf jN gD
def Eu(P nN:Int)(nS:L UInt8)(J:L Nd)(B s:L Ty)(hP:46<=P/\P<=58)(hf:bW P J=some B)(G:rJ s)(hl:s.length<=9999999990)(hsz:aU J<=8589934593)
  (I:∀a∈J,∀s':L Ty,rJ s'->s'.length<=s.length+1->ah 23 [.sl 5 (aH (cI a)),.sl 2 (aA s')] (vr (cE (cI a) (s',false)))) :
  ah 72 [aW (.mk 2 nN P nS J),.sl 2 (aA B),.sl 2 (aA s)] (jF (aX P (bf J) B s)):=by
 have SQ:P=46\/P=47\/P=48\/P=49\/P=50\/P=51\/P=52\/P=53\/P=54\/P=55\/P=56\/P=57\/P=58:=by omega
 clear hP;rcases SQ with rfl|rfl|rfl|rfl|rfl|rfl|rfl|rfl|rfl|rfl|rfl|rfl|rfl
 ·obtain⟨rfl,rfl⟩:=dN hf rfl;clear hf;rcases s with _|⟨⟨T,us⟩,_|⟨⟨U,vs⟩,q⟩⟩
  ·rw[show aX 46 (bf ([])) ([]) ([])=aR 5 from by simp[aX,bS,aE,au,aaf,aag,aV]];rw[aD bT];refine qn func72 call72 λβ hf=>?_;exact dw
  ·rw[show aX 46 (bf ([])) ([]) ([.mk T us])=aR 5 from by simp[aX,bS,aE,au,aaf,aag,aV]];rw[aD bT];refine qn func72 call72 λβ hf=>?_;exact dw
  ·have el1:=zd (aA (.mk T us :: .mk U vs::q)) 1 CK;have S:=bE (q) [.mk 11 [.mk T us,.mk U vs]];rw[aI]at S;rw[show aX 46 (bf ([])) ([]) (.mk T us :: .mk U vs::q)=eT (.mk 11 [.mk T us,.mk U vs]::q)from by simp[aX,bS,aE,au,aaf,aag,aV]];rw[aI];refine qn func72 call72 λβ hf=>?_;have vV:=dM 11 [.mk T us,.mk U vs];exact dw
 ·obtain⟨rfl,rfl⟩:=dN hf rfl;clear hf;rcases s with _|⟨⟨T,us⟩,r⟩
  ·rw[show aX 47 (bf ([])) ([]) ([])=aR 5 from by simp[aX,bS,aE,au,aaf,aag,aV]];rw[aD bT];refine qn func72 call72 λβ hf=>?_;exact dw
  by_cases W:T=11
  ·subst W;obtain⟨⟨X,A⟩,⟨Y,Q⟩,rfl,hx,hy⟩:=fz (G (.mk 11 us) cS) rfl;have D:=aq (.mk 11 [.mk X A,.mk Y Q]::r) [11];rw[show gR (.mk 11 [.mk X A,.mk Y Q]::r) [11]=true from by(simp[bZ,b8,aY])<;>assumption]at D;have S:=bE (r) [.mk X A,.mk Y Q];rw[aI]at S;rw[show aX 47 (bf ([])) ([]) (.mk 11 [.mk X A,.mk Y Q]::r)=eT (.mk X A :: .mk Y Q::r)from by simp[aX,bS,aE,au,aaf,aag,aV]];rw[aI];refine qn func72 call72 λβ hf=>?_;exact dw
  ·have D:=aq (.mk T us::r) [11];rw[show gR (.mk T us::r) [11]=false from by(simp[bZ,b8,aY,W])<;>assumption]at D;rw[show aX 47 (bf ([])) ([]) (.mk T us::r)=aR 5 from by simp[aX,bS,aE,au,aaf,aag,aV,W]];rw[aD bT];refine qn func72 call72 λβ hf=>?_;exact dw
 ·obtain⟨rfl,rfl⟩:=dN hf rfl;clear hf;rcases s with _|⟨⟨T,us⟩,r⟩
  ·rw[show aX 48 (bf ([])) ([]) ([])=aR 5 from by simp[aX,bS,aE,au,aaf,aag,aV]];rw[aD bT];refine qn func72 call72 λβ hf=>?_;exact dw
  by_cases W:T=11
  ·subst W;obtain⟨⟨X,A⟩,⟨Y,Q⟩,rfl,hx,hy⟩:=fz (G (.mk 11 us) cS) rfl;have D:=aq (.mk 11 [.mk X A,.mk Y Q]::r) [11];rw[show gR (.mk 11 [.mk X A,.mk Y Q]::r) [11]=true from by(simp[bZ,b8,aY])<;>assumption]at D;have S:=bE (r) [.mk X A];rw[aI]at S;rw[show aX 48 (bf ([])) ([]) (.mk 11 [.mk X A,.mk Y Q]::r)=eT (.mk X A::r)from by simp[aX,bS,aE,au,aaf,aag,aV]];rw[aI];refine qn func72 call72 λβ hf=>?_;exact dw
  ·have D:=aq (.mk T us::r) [11];rw[show gR (.mk T us::r) [11]=false from by(simp[bZ,b8,aY,W])<;>assumption]at D;rw[show aX 48 (bf ([])) ([]) (.mk T us::r)=aR 5 from by simp[aX,bS,aE,au,aaf,aag,aV,W]];rw[aD bT];refine qn func72 call72 λβ hf=>?_;exact dw
 ·obtain⟨rfl,rfl⟩:=dN hf rfl;clear hf;rcases s with _|⟨⟨T,us⟩,r⟩
  ·rw[show aX 49 (bf ([])) ([]) ([])=aR 5 from by simp[aX,bS,aE,au,aaf,aag,aV]];rw[aD bT];refine qn func72 call72 λβ hf=>?_;exact dw
  by_cases W:T=11
  ·subst W;obtain⟨⟨X,A⟩,⟨Y,Q⟩,rfl,hx,hy⟩:=fz (G (.mk 11 us) cS) rfl;have D:=aq (.mk 11 [.mk X A,.mk Y Q]::r) [11];rw[show gR (.mk 11 [.mk X A,.mk Y Q]::r) [11]=true from by(simp[bZ,b8,aY])<;>assumption]at D;have S:=bE (r) [.mk Y Q];rw[aI]at S;rw[show aX 49 (bf ([])) ([]) (.mk 11 [.mk X A,.mk Y Q]::r)=eT (.mk Y Q::r)from by simp[aX,bS,aE,au,aaf,aag,aV]];rw[aI];refine qn func72 call72 λβ hf=>?_;exact dw
  ·have D:=aq (.mk T us::r) [11];rw[show gR (.mk T us::r) [11]=false from by(simp[bZ,b8,aY,W])<;>assumption]at D;rw[show aX 49 (bf ([])) ([]) (.mk T us::r)=aR 5 from by simp[aX,bS,aE,au,aaf,aag,aV,W]];rw[aD bT];refine qn func72 call72 λβ hf=>?_;exact dw
 ·obtain⟨x0,t,rfl,rfl,ht⟩:=xP hf rfl;clear hf;have ZU:=ht.2;obtain⟨V,p⟩:=t;rcases s with _|⟨⟨T,us⟩,r⟩
  ·rw[show aX 50 (bf ([x0])) ([.mk V p]) ([])=aR 5 from by simp[aX,bS,aE,au,aaf,aag,aV]];rw[aD bT];refine qn func72 call72 λβ hf=>?_;exact dw
  ·have S:=bE (r) [.mk 12 [.mk T us,.mk V p]];rw[aI]at S;rw[show aX 50 (bf ([x0])) ([.mk V p]) (.mk T us::r)=eT (.mk 12 [.mk T us,.mk V p]::r)from by simp[aX,bS,aE,au,aaf,aag,aV]];rw[aI];refine qn func72 call72 λβ hf=>?_;have Ep:=dM 12 [.mk T us,.mk V p];exact dw
 ·obtain⟨x0,t,rfl,rfl,ht⟩:=xP hf rfl;clear hf;have ZU:=ht.2;obtain⟨V,p⟩:=t;rcases s with _|⟨⟨T,us⟩,r⟩
  ·rw[show aX 51 (bf ([x0])) ([.mk V p]) ([])=aR 5 from by simp[aX,bS,aE,au,aaf,aag,aV]];rw[aD bT];refine qn func72 call72 λβ hf=>?_;exact dw
  ·have S:=bE (r) [.mk 12 [.mk V p,.mk T us]];rw[aI]at S;rw[show aX 51 (bf ([x0])) ([.mk V p]) (.mk T us::r)=eT (.mk 12 [.mk V p,.mk T us]::r)from by simp[aX,bS,aE,au,aaf,aag,aV]];rw[aI];refine qn func72 call72 λβ hf=>?_;have Ji:=dM 12 [.mk V p,.mk T us];exact dw
 ·obtain⟨O,N,C,xs,M,K,H,Q,rfl,rfl⟩:=Ao hf rfl;clear hf;rcases s with _|⟨⟨T,us⟩,r⟩
  ·rw[show aX 52 (bf ([.mk 3 O N C xs,.mk 3 M K H Q])) ([]) ([])=aR 5 from by simp[aX,bS,aE,au,aaf,aag,aV]];rw[aD bT];refine qn func72 call72 λβ hf=>?_;exact dw
  by_cases W:T=12
  ·subst W;simp only[aac]at hl;have zr:=aZ r;have E:=(oX G).2;obtain⟨⟨X,A⟩,⟨Y,qs⟩,rfl,hx,hy⟩:=fz (G (.mk 12 us) cS) rfl;have D:=aq (.mk 12 [.mk X A,.mk Y qs]::r) [12];rw[show gR (.mk 12 [.mk X A,.mk Y qs]::r) [12]=true from by(simp[bZ,b8,aY])<;>assumption]at D;have w1:=I (.mk 3 O N C xs) cS (.mk X A::r) (lU hx E) dG;have u:=kY xs (.mk X A::r,false) (lU hx E);have w2:=I (.mk 3 M K H Q) cS (.mk Y qs::r) (lU hy E) dG;have o2:=kY Q (.mk Y qs::r,false) (lU hy E);rw[show aX 52 (bf ([.mk 3 O N C xs,.mk 3 M K H Q])) ([]) (.mk 12 [.mk X A,.mk Y qs]::r)=di (cE xs (.mk X A::r,false)) (cE Q (.mk Y qs::r,false))from by simp[aX,bS,aE,au,aaf,aag,aV,bf]];simp only[cI]at w1;generalize cE xs (.mk X A::r,false)=r1 at w1 u ⊢;obtain⟨⟨t1,b1⟩,e1⟩:=r1;simp only[aac]at u;simp only[cI]at w2;generalize cE Q (.mk Y qs::r,false)=r2 at w2 o2 ⊢;obtain⟨⟨t2,b2⟩,e2⟩:=r2;simp only[aac]at o2;have hm:=jn ((t1,b1),e1) ((t2,b2),e2) u.1 rj;generalize di ((t1,b1),e1) ((t2,b2),e2)=rm at hm ⊢;obtain⟨⟨tm,bm⟩,em⟩:=rm;refine qn func72 call72 λβ hf=>?_;exact dw
  ·have D:=aq (.mk T us::r) [12];rw[show gR (.mk T us::r) [12]=false from by(simp[bZ,b8,aY,W])<;>assumption]at D;rw[show aX 52 (bf ([.mk 3 O N C xs,.mk 3 M K H Q])) ([]) (.mk T us::r)=aR 5 from by simp[aX,bS,aE,au,aaf,aag,aV,W]];rw[aD bT];refine qn func72 call72 λβ hf=>?_;exact dw
 ·obtain⟨rfl,rfl⟩:=dN hf rfl;clear hf;rcases s with _|⟨⟨T,us⟩,r⟩
  ·rw[show aX 53 (bf ([])) ([]) ([])=aR 5 from by simp[aX,bS,aE,au,aaf,aag,aV]];rw[aD bT];refine qn func72 call72 λβ hf=>?_;exact dw
  ·have S:=bE (r) [.mk 9 [.mk T us]];rw[aI]at S;rw[show aX 53 (bf ([])) ([]) (.mk T us::r)=eT (.mk 9 [.mk T us]::r)from by simp[aX,bS,aE,au,aaf,aag,aV]];rw[aI];refine qn func72 call72 λβ hf=>?_;have Lr:=dM 9 [.mk T us];exact dw
 ·obtain⟨x0,t,rfl,rfl,ht⟩:=xP hf rfl;clear hf;have ZU:=ht.2;obtain⟨V,p⟩:=t;have S:=bE (s) [.mk 9 [.mk V p]];rw[aI]at S;rw[show aX 54 (bf ([x0])) ([.mk V p]) (s)=eT (.mk 9 [.mk V p]::s)from by simp[aX,bS,aE,au,aaf,aag,aV]];rw[aI];refine qn func72 call72 λβ hf=>?_;have Ls:=dM 9 [.mk V p];exact dw
 ·obtain⟨O,N,C,xs,M,K,H,Q,rfl,rfl⟩:=Ao hf rfl;clear hf;rcases s with _|⟨⟨T,us⟩,r⟩
  ·rw[show aX 55 (bf ([.mk 3 O N C xs,.mk 3 M K H Q])) ([]) ([])=aR 5 from by simp[aX,bS,aE,au,aaf,aag,aV]];rw[aD bT];refine qn func72 call72 λβ hf=>?_;exact dw
  by_cases W:T=9
  ·subst W;simp only[aac]at hl;have zr:=aZ r;have E:=(oX G).2;obtain⟨⟨X,A⟩,rfl,hx⟩:=fJ (G (.mk 9 us) cS) rfl;have D:=aq (.mk 9 [.mk X A]::r) [9];rw[show gR (.mk 9 [.mk X A]::r) [9]=true from by(simp[bZ,b8,aY])<;>assumption]at D;have w1:=I (.mk 3 O N C xs) cS (r) E dG;have u:=kY xs (r,false) E;have w2:=I (.mk 3 M K H Q) cS (.mk X A::r) (lU hx E) dG;have o2:=kY Q (.mk X A::r,false) (lU hx E);rw[show aX 55 (bf ([.mk 3 O N C xs,.mk 3 M K H Q])) ([]) (.mk 9 [.mk X A]::r)=di (cE xs (r,false)) (cE Q (.mk X A::r,false))from by simp[aX,bS,aE,au,aaf,aag,aV,bf]];simp only[cI]at w1;generalize cE xs (r,false)=r1 at w1 u ⊢;obtain⟨⟨t1,b1⟩,e1⟩:=r1;simp only[aac]at u;simp only[cI]at w2;generalize cE Q (.mk X A::r,false)=r2 at w2 o2 ⊢;obtain⟨⟨t2,b2⟩,e2⟩:=r2;simp only[aac]at o2;have hm:=jn ((t1,b1),e1) ((t2,b2),e2) u.1 rj;generalize di ((t1,b1),e1) ((t2,b2),e2)=rm at hm ⊢;obtain⟨⟨tm,bm⟩,em⟩:=rm;refine qn func72 call72 λβ hf=>?_;have OT:=fu r bn;exact dw
  ·have D:=aq (.mk T us::r) [9];rw[show gR (.mk T us::r) [9]=false from by(simp[bZ,b8,aY,W])<;>assumption]at D;rw[show aX 55 (bf ([.mk 3 O N C xs,.mk 3 M K H Q])) ([]) (.mk T us::r)=aR 5 from by simp[aX,bS,aE,au,aaf,aag,aV,W]];rw[aD bT];refine qn func72 call72 λβ hf=>?_;exact dw
 ·obtain⟨x0,t,rfl,rfl,ht⟩:=xP hf rfl;clear hf;have ZU:=ht.2;obtain⟨V,p⟩:=t;have S:=bE (s) [.mk 10 [.mk V p]];rw[aI]at S;rw[show aX 56 (bf ([x0])) ([.mk V p]) (s)=eT (.mk 10 [.mk V p]::s)from by simp[aX,bS,aE,au,aaf,aag,aV]];rw[aI];refine qn func72 call72 λβ hf=>?_;have US:=dM 10 [.mk V p];exact dw
 ·obtain⟨rfl,rfl⟩:=dN hf rfl;clear hf;rcases s with _|⟨⟨T,us⟩,_|⟨⟨U,vs⟩,q⟩⟩
  ·rw[show aX 57 (bf ([])) ([]) ([])=aR 5 from by simp[aX,bS,aE,au,aaf,aag,aV]];rw[aD bT];refine qn func72 call72 λβ hf=>?_;exact dw
  ·have D:=aq ([.mk T us]) [0,10];rw[show gR ([.mk T us]) [0,10]=false from by(simp[bZ,b8,aY])<;>assumption]at D;rw[show aX 57 (bf ([])) ([]) ([.mk T us])=aR 5 from by simp[aX,bS,aE,au,aaf,aag,aV]];rw[aD bT];refine qn func72 call72 λβ hf=>?_;exact dw
  by_cases hU:U=10
  ·subst hU;obtain⟨⟨X,A⟩,rfl,hx⟩:=fJ (G (.mk 10 vs) cS) rfl;have D:=aq (.mk T us :: .mk 10 [.mk X A]::q) [0,10];rw[show gR (.mk T us :: .mk 10 [.mk X A]::q) [0,10]=true from by(simp[bZ,b8,aY])<;>assumption]at D;have h1:=gU (.mk T us) (.mk X A) lf;cases g1:dh (.mk T us) (.mk X A)
   ·rw[g1]at h1;rw[show aX 57 (bf ([])) ([]) (.mk T us :: .mk 10 [.mk X A]::q)=aR 5 from by simp[aX,bS,aE,au,aaf,aag,aV,g1]];rw[aD bT];refine qn func72 call72 λβ hf=>?_;exact dw
   ·rw[g1]at h1;have S:=ke (.mk 10 [.mk X A]::q);rw[aI]at S;rw[show aX 57 (bf ([])) ([]) (.mk T us :: .mk 10 [.mk X A]::q)=eT (.mk 10 [.mk X A]::q)from by simp[aX,bS,aE,au,aaf,aag,aV,g1]];rw[aI];refine qn func72 call72 λβ hf=>?_;exact dw
  ·have D:=aq (.mk T us :: .mk U vs::q) [0,10];rw[show gR (.mk T us :: .mk U vs::q) [0,10]=false from by(simp[bZ,b8,aY,hU])<;>assumption]at D;rw[show aX 57 (bf ([])) ([]) (.mk T us :: .mk U vs::q)=aR 5 from by simp[aX,bS,aE,au,aaf,aag,aV,hU]];rw[aD bT];refine qn func72 call72 λβ hf=>?_;exact dw
 ·obtain⟨O,N,C,xs,M,K,H,Q,rfl,rfl⟩:=Ao hf rfl;clear hf;rcases s with _|⟨⟨T,us⟩,r⟩
  ·rw[show aX 58 (bf ([.mk 3 O N C xs,.mk 3 M K H Q])) ([]) ([])=aR 5 from by simp[aX,bS,aE,au,aaf,aag,aV]];rw[aD bT];refine qn func72 call72 λβ hf=>?_;exact dw
  by_cases W:T=10
  ·subst W;simp only[aac]at hl;have zr:=aZ r;have E:=(oX G).2;obtain⟨⟨X,A⟩,rfl,hx⟩:=fJ (G (.mk 10 us) cS) rfl;have D:=aq (.mk 10 [.mk X A]::r) [10];rw[show gR (.mk 10 [.mk X A]::r) [10]=true from by(simp[bZ,b8,aY])<;>assumption]at D;have w1:=I (.mk 3 O N C xs) cS (.mk X A :: .mk 10 [.mk X A]::r) (lU hx G) dG;have u:=kY xs (.mk X A :: .mk 10 [.mk X A]::r,false) (lU hx G);have w2:=I (.mk 3 M K H Q) cS (r) E dG;have o2:=kY Q (r,false) E;rw[show aX 58 (bf ([.mk 3 O N C xs,.mk 3 M K H Q])) ([]) (.mk 10 [.mk X A]::r)=di (cE xs (.mk X A :: .mk 10 [.mk X A]::r,false)) (cE Q (r,false))from by simp[aX,bS,aE,au,aaf,aag,aV,bf]];simp only[cI]at w1;generalize cE xs (.mk X A :: .mk 10 [.mk X A]::r,false)=r1 at w1 u ⊢;obtain⟨⟨t1,b1⟩,e1⟩:=r1;simp only[aac]at u;simp only[cI]at w2;generalize cE Q (r,false)=r2 at w2 o2 ⊢;obtain⟨⟨t2,b2⟩,e2⟩:=r2;simp only[aac]at o2;have hm:=jn ((t1,b1),e1) ((t2,b2),e2) u.1 rj;generalize di ((t1,b1),e1) ((t2,b2),e2)=rm at hm ⊢;obtain⟨⟨tm,bm⟩,em⟩:=rm;refine qn func72 call72 λβ hf=>?_;have X8:=fu r bn;exact dw
  ·have D:=aq (.mk T us::r) [10];rw[show gR (.mk T us::r) [10]=false from by(simp[bZ,b8,aY,W])<;>assumption]at D;rw[show aX 58 (bf ([.mk 3 O N C xs,.mk 3 M K H Q])) ([]) (.mk T us::r)=aR 5 from by simp[aX,bS,aE,au,aaf,aag,aV,W]];rw[aD bT];refine qn func72 call72 λβ hf=>?_;exact dw
end Go.Proofs
namespace Go.Proofs
open Go.cK
attribute [local irreducible] AK af bg cn aP fY mH gW iT bB cE fD bf jN gD
def Jk(P nN:Int)(nS:L UInt8)(J:L Nd)(B s:L Ty)(hP:59<=P/\P<=63)(hf:bW P J=some B)(I:rJ s)(hl:s.length<=9999999990)(hsz:aU J<=8589934593)
  (E:∀a∈J,∀s':L Ty,rJ s'->s'.length<=s.length+1->ah 23 [.sl 5 (aH (cI a)),.sl 2 (aA s')] (vr (cE (cI a) (s',false)))) :
  ah 73 [aW (.mk 2 nN P nS J),.sl 2 (aA B),.sl 2 (aA s)] (jF (cT P (bf J) B s)):=by
 have SQ:P=59\/P=60\/P=61\/P=62\/P=63:=by omega
 clear hP;rcases SQ with rfl|rfl|rfl|rfl|rfl
 ·obtain⟨rfl,rfl⟩:=dN hf rfl;clear hf;rcases s with _|⟨⟨T,us⟩,r⟩
  ·have M:=aq ([]) [6];rw[show gR ([]) [6]=false from by(simp[bZ,b8,aY])<;>assumption]at M;have G:=aq ([]) [10];rw[show gR ([]) [10]=false from by(simp[bZ,b8,aY])<;>assumption]at G;have N:=aq ([]) [13];rw[show gR ([]) [13]=false from by(simp[bZ,b8,aY])<;>assumption]at N;rw[show cT 59 (bf ([])) ([]) ([])=aR 5 from by simp[cT,bS,aE,au,aaf,aag,aV]];rw[aD bT];refine qn func73 call73 λβ hf=>?_;exact dw
  by_cases S:T=6
  ·subst S;have M:=aq (.mk 6 us::r) [6];rw[show gR (.mk 6 us::r) [6]=true from by(simp[bZ,b8,aY])<;>assumption]at M;have K:=bE (r) [.mk 4 []];rw[aI]at K;rw[show cT 59 (bf ([])) ([]) (.mk 6 us::r)=eT (.mk 4 []::r)from by simp[cT,bS,aE,au,aaf,aag,aV]];rw[aI];refine qn func73 call73 λβ hf=>?_;have vV:=cZ 4;exact dw
  by_cases O:T=10
  ·subst O;have M:=aq (.mk 10 us::r) [6];rw[show gR (.mk 10 us::r) [6]=false from by(simp[bZ,b8,aY])<;>assumption]at M;have G:=aq (.mk 10 us::r) [10];rw[show gR (.mk 10 us::r) [10]=true from by(simp[bZ,b8,aY])<;>assumption]at G;have K:=bE (r) [.mk 4 []];rw[aI]at K;rw[show cT 59 (bf ([])) ([]) (.mk 10 us::r)=eT (.mk 4 []::r)from by simp[cT,bS,aE,au,aaf,aag,aV]];rw[aI];refine qn func73 call73 λβ hf=>?_;have Ep:=cZ 4;exact dw
  by_cases OU:T=13
  ·subst OU;have M:=aq (.mk 13 us::r) [6];rw[show gR (.mk 13 us::r) [6]=false from by(simp[bZ,b8,aY])<;>assumption]at M;have G:=aq (.mk 13 us::r) [10];rw[show gR (.mk 13 us::r) [10]=false from by(simp[bZ,b8,aY])<;>assumption]at G;have N:=aq (.mk 13 us::r) [13];rw[show gR (.mk 13 us::r) [13]=true from by(simp[bZ,b8,aY])<;>assumption]at N;have K:=bE (r) [.mk 4 []];rw[aI]at K;rw[show cT 59 (bf ([])) ([]) (.mk 13 us::r)=eT (.mk 4 []::r)from by simp[cT,bS,aE,au,aaf,aag,aV]];rw[aI];refine qn func73 call73 λβ hf=>?_;have Ji:=cZ 4;exact dw
  ·have M:=aq (.mk T us::r) [6];rw[show gR (.mk T us::r) [6]=false from by(simp[bZ,b8,aY,S])<;>assumption]at M;have G:=aq (.mk T us::r) [10];rw[show gR (.mk T us::r) [10]=false from by(simp[bZ,b8,aY,O])<;>assumption]at G;have N:=aq (.mk T us::r) [13];rw[show gR (.mk T us::r) [13]=false from by(simp[bZ,b8,aY,OU])<;>assumption]at N;rw[show cT 59 (bf ([])) ([]) (.mk T us::r)=aR 5 from by simp[cT,bS,aE,au,aaf,aag,aV,S,O,OU]];rw[aD bT];refine qn func73 call73 λβ hf=>?_;exact dw
 ·obtain⟨n1,p1,S1,xs,rfl,rfl⟩:=Jl hf rfl;clear hf;rcases s with _|⟨⟨T,us⟩,r⟩
  ·have M:=aq ([]) [10];rw[show gR ([]) [10]=false from by(simp[bZ,b8,aY])<;>assumption]at M;have G:=aq ([]) [13];rw[show gR ([]) [13]=false from by(simp[bZ,b8,aY])<;>assumption]at G;rw[show cT 60 (bf ([.mk 3 n1 p1 S1 xs])) ([]) ([])=aR 5 from by simp[cT,bS,aE,au,aaf,aag,aV]];rw[aD bT];refine qn func73 call73 λβ hf=>?_;exact dw
  by_cases S:T=10
  ·subst S;simp only[aac]at hl;have zr:=aZ r;have pU:=(oX I).2;obtain⟨⟨X,A⟩,rfl,C⟩:=fJ (I (.mk 10 us) cS) rfl;have M:=aq (.mk 10 [.mk X A]::r) [10];rw[show gR (.mk 10 [.mk X A]::r) [10]=true from by(simp[bZ,b8,aY])<;>assumption]at M;have w1:=E (.mk 3 n1 p1 S1 xs) cS (.mk X A::r) (lU C pU) dG;have p:=kY xs (.mk X A::r,false) (lU C pU);rw[show cT 60 (bf ([.mk 3 n1 p1 S1 xs])) ([]) (.mk 10 [.mk X A]::r)=di (cE xs (.mk X A::r,false)) (eT (r))from by simp[cT,bS,aE,au,aaf,aag,aV,bf]];simp only[cI]at w1;generalize cE xs (.mk X A::r,false)=r1 at w1 p ⊢;obtain⟨⟨t1,b1⟩,e1⟩:=r1;simp only[aac]at p;change bg _ _ _ _ (jF (di ((t1,b1),e1) ((r,false),0)));have hm:=jn ((t1,b1),e1) ((r,false),0) p.1 rj;generalize di ((t1,b1),e1) ((r,false),0)=rm at hm ⊢;obtain⟨⟨tm,bm⟩,em⟩:=rm;refine qn func73 call73 λβ hf=>?_;have Lr:=fu r bn;exact dw
  by_cases O:T=13
  ·subst O;simp only[aac]at hl;have zr:=aZ r;have pU:=(oX I).2;have C:mV (.mk 11 us):=Ap (I (.mk 13 us) cS) Z;obtain⟨⟨X,A⟩,⟨Y,Q⟩,rfl,hx1,hy1⟩:=fz C rfl;have M:=aq (.mk 13 [.mk X A,.mk Y Q]::r) [10];rw[show gR (.mk 13 [.mk X A,.mk Y Q]::r) [10]=false from by(simp[bZ,b8,aY])<;>assumption]at M;have G:=aq (.mk 13 [.mk X A,.mk Y Q]::r) [13];rw[show gR (.mk 13 [.mk X A,.mk Y Q]::r) [13]=true from by(simp[bZ,b8,aY])<;>assumption]at G;have w1:=E (.mk 3 n1 p1 S1 xs) cS (.mk 11 [.mk X A,.mk Y Q]::r) (lU C pU) dG;have p:=kY xs (.mk 11 [.mk X A,.mk Y Q]::r,false) (lU C pU);rw[show cT 60 (bf ([.mk 3 n1 p1 S1 xs])) ([]) (.mk 13 [.mk X A,.mk Y Q]::r)=di (cE xs (.mk 11 [.mk X A,.mk Y Q]::r,false)) (eT (r))from by simp[cT,bS,aE,au,aaf,aag,aV,bf]];simp only[cI]at w1;generalize cE xs (.mk 11 [.mk X A,.mk Y Q]::r,false)=r1 at w1 p ⊢;obtain⟨⟨t1,b1⟩,e1⟩:=r1;simp only[aac]at p;change bg _ _ _ _ (jF (di ((t1,b1),e1) ((r,false),0)));have hm:=jn ((t1,b1),e1) ((r,false),0) p.1 rj;generalize di ((t1,b1),e1) ((r,false),0)=rm at hm ⊢;obtain⟨⟨tm,bm⟩,em⟩:=rm;refine qn func73 call73 λβ hf=>?_;have Ls:=dM 11 [.mk X A,.mk Y Q];have OT:=fu r bn;exact dw
  ·have M:=aq (.mk T us::r) [10];rw[show gR (.mk T us::r) [10]=false from by(simp[bZ,b8,aY,S])<;>assumption]at M;have G:=aq (.mk T us::r) [13];rw[show gR (.mk T us::r) [13]=false from by(simp[bZ,b8,aY,O])<;>assumption]at G;rw[show cT 60 (bf ([.mk 3 n1 p1 S1 xs])) ([]) (.mk T us::r)=aR 5 from by simp[cT,bS,aE,au,aaf,aag,aV,S,O]];rw[aD bT];refine qn func73 call73 λβ hf=>?_;exact dw
 ·obtain⟨x0,y0,t,u,rfl,rfl,ht,hu⟩:=UT hf rfl;clear hf;have ZU:=ht.2;obtain⟨V,ws⟩:=t;have X9:=hu.2;obtain⟨V2,Lu⟩:=u;have h2:=lT (.mk V ws) bn;cases H:fY (.mk V ws)
  ·rw[H]at h2;rw[show cT 61 (bf ([x0,y0])) ([.mk V ws,.mk V2 Lu]) (s)=aR 5 from by simp[cT,bS,aE,au,aaf,aag,aV,H]];rw[aD bT];refine qn func73 call73 λβ hf=>?_;exact dw
  ·rw[H]at h2;have K:=bE (s) [.mk 13 [.mk V ws,.mk V2 Lu]];rw[aI]at K;rw[show cT 61 (bf ([x0,y0])) ([.mk V ws,.mk V2 Lu]) (s)=eT (.mk 13 [.mk V ws,.mk V2 Lu]::s)from by simp[cT,bS,aE,au,aaf,aag,aV,H]];rw[aI];refine qn func73 call73 λβ hf=>?_;have US:=dM 13 [.mk V ws,.mk V2 Lu];exact dw
 ·obtain⟨rfl,rfl⟩:=dN hf rfl;clear hf;rcases s with _|⟨⟨T,us⟩,_|⟨⟨U,vs⟩,q⟩⟩
  ·have D:=aq ([]) [0,13];rw[show gR ([]) [0,13]=false from by(simp[bZ,b8,aY])<;>assumption]at D;rw[show cT 62 (bf ([])) ([]) ([])=aR 5 from by simp[cT,bS,aE,au,aaf,aag,aV]];rw[aD bT];refine qn func73 call73 λβ hf=>?_;exact dw
  ·have D:=aq ([.mk T us]) [0,13];rw[show gR ([.mk T us]) [0,13]=false from by(simp[bZ,b8,aY])<;>assumption]at D;rw[show cT 62 (bf ([])) ([]) ([.mk T us])=aR 5 from by simp[cT,bS,aE,au,aaf,aag,aV]];rw[aD bT];refine qn func73 call73 λβ hf=>?_;exact dw
  by_cases hU:U=13
  ·subst hU;obtain⟨⟨X,A⟩,⟨Y,Q⟩,rfl,C,hy⟩:=fz (I (.mk 13 vs) cS) rfl;have D:=aq (.mk T us :: .mk 13 [.mk X A,.mk Y Q]::q) [0,13];rw[show gR (.mk T us :: .mk 13 [.mk X A,.mk Y Q]::q) [0,13]=true from by(simp[bZ,b8,aY])<;>assumption]at D;have hy2:=hy.2;have h1:=gU (.mk T us) (.mk X A) (by have:=(I (.mk T us) cS).2;omega);have h2:=uq (.mk Y Q) bn;cases g1:dh (.mk T us) (.mk X A)
   ·rw[g1]at h1;rw[show cT 62 (bf ([])) ([]) (.mk T us :: .mk 13 [.mk X A,.mk Y Q]::q)=aR 5 from by simp[cT,bS,aE,au,aaf,aag,aV,g1]];rw[aD bT];refine qn func73 call73 λβ hf=>?_;exact dw
   cases H:mH (.mk Y Q)
   ·rw[g1]at h1;rw[H]at h2;rw[show cT 62 (bf ([])) ([]) (.mk T us :: .mk 13 [.mk X A,.mk Y Q]::q)=aR 5 from by simp[cT,bS,aE,au,aaf,aag,aV,g1,H]];rw[aD bT];refine qn func73 call73 λβ hf=>?_;exact dw
   ·rw[g1]at h1;rw[H]at h2;have K:=bE (q) [.mk 9 [.mk Y Q]];rw[aI]at K;rw[show cT 62 (bf ([])) ([]) (.mk T us :: .mk 13 [.mk X A,.mk Y Q]::q)=eT (.mk 9 [.mk Y Q]::q)from by simp[cT,bS,aE,au,aaf,aag,aV,g1,H]];rw[aI];refine qn func73 call73 λβ hf=>?_;have X8:=dM 9 [.mk Y Q];exact dw
  ·have D:=aq (.mk T us :: .mk U vs::q) [0,13];rw[show gR (.mk T us :: .mk U vs::q) [0,13]=false from by(simp[bZ,b8,aY,hU])<;>assumption]at D;rw[show cT 62 (bf ([])) ([]) (.mk T us :: .mk U vs::q)=aR 5 from by simp[cT,bS,aE,au,aaf,aag,aV,hU]];rw[aD bT];refine qn func73 call73 λβ hf=>?_;exact dw
 ·obtain⟨rfl,rfl⟩:=dN hf rfl;clear hf;rcases s with _|⟨⟨T,us⟩,_|⟨⟨U,vs⟩,_|⟨⟨W,qs⟩,q⟩⟩⟩
  ·have D:=aq ([]) [0,9,13];rw[show gR ([]) [0,9,13]=false from by(simp[bZ,b8,aY])<;>assumption]at D;rw[show cT 63 (bf ([])) ([]) ([])=aR 5 from by simp[cT,bS,aE,au,aaf,aag,aV]];rw[aD bT];refine qn func73 call73 λβ hf=>?_;exact dw
  ·have D:=aq ([.mk T us]) [0,9,13];rw[show gR ([.mk T us]) [0,9,13]=false from by(simp[bZ,b8,aY])<;>assumption]at D;rw[show cT 63 (bf ([])) ([]) ([.mk T us])=aR 5 from by simp[cT,bS,aE,au,aaf,aag,aV]];rw[aD bT];refine qn func73 call73 λβ hf=>?_;exact dw
  ·have D:=aq ([.mk T us,.mk U vs]) [0,9,13];rw[show gR ([.mk T us,.mk U vs]) [0,9,13]=false from by(simp[bZ,b8,aY])<;>assumption]at D;rw[show cT 63 (bf ([])) ([]) ([.mk T us,.mk U vs])=aR 5 from by simp[cT,bS,aE,au,aaf,aag,aV]];rw[aD bT];refine qn func73 call73 λβ hf=>?_;exact dw
  by_cases hU:U=9/\W=13
  ·obtain⟨rfl,rfl⟩:=hU;obtain⟨⟨X,A⟩,⟨Y,Q⟩,rfl,C,hy⟩:=fz (I (.mk 13 qs) cS) rfl;obtain⟨⟨Zz,os⟩,rfl,hz⟩:=fJ (I (.mk 9 vs) cS) rfl;have D:=aq (.mk T us :: .mk 9 [.mk Zz os] :: .mk 13 [.mk X A,.mk Y Q]::q) [0,9,13];rw[show gR (.mk T us :: .mk 9 [.mk Zz os] :: .mk 13 [.mk X A,.mk Y Q]::q) [0,9,13]=true from by(simp[bZ,b8,aY])<;>assumption]at D;have hz2:=hz.2;have h1:=gU (.mk T us) (.mk X A) (by have:=(I (.mk T us) cS).2;omega);have h2:=gU (.mk Zz os) (.mk Y Q) bn;cases g1:dh (.mk T us) (.mk X A)
   ·rw[g1]at h1;rw[show cT 63 (bf ([])) ([]) (.mk T us :: .mk 9 [.mk Zz os] :: .mk 13 [.mk X A,.mk Y Q]::q)=aR 5 from by simp[cT,bS,aE,au,aaf,aag,aV,g1]];rw[aD bT];refine qn func73 call73 λβ hf=>?_;exact dw
   cases H:dh (.mk Zz os) (.mk Y Q)
   ·rw[g1]at h1;rw[H]at h2;rw[show cT 63 (bf ([])) ([]) (.mk T us :: .mk 9 [.mk Zz os] :: .mk 13 [.mk X A,.mk Y Q]::q)=aR 5 from by simp[cT,bS,aE,au,aaf,aag,aV,g1,H]];rw[aD bT];refine qn func73 call73 λβ hf=>?_;exact dw
   ·rw[g1]at h1;rw[H]at h2;have K:=ke (.mk 13 [.mk X A,.mk Y Q]::q);rw[aI]at K;rw[show cT 63 (bf ([])) ([]) (.mk T us :: .mk 9 [.mk Zz os] :: .mk 13 [.mk X A,.mk Y Q]::q)=eT (.mk 13 [.mk X A,.mk Y Q]::q)from by simp[cT,bS,aE,au,aaf,aag,aV,g1,H]];rw[aI];refine qn func73 call73 λβ hf=>?_;exact dw
  ·have OU:U=9->¬W=13:=λa b=>hU ⟨a,b⟩;have D:=aq (.mk T us :: .mk U vs :: .mk W qs::q) [0,9,13];rw[show gR (.mk T us :: .mk U vs :: .mk W qs::q) [0,9,13]=false from by(simp[bZ,b8,aY,OU])<;>assumption]at D;have hT3:¬(U=9/\W=13/\dh (.mk T us) (qs.getD 0 kX)=true/\dh (vs.getD 0 kX) (qs.getD 1 kX)=true):=λh=>hU ⟨h.1,h.2.1⟩;rw[show cT 63 (bf ([])) ([]) (.mk T us :: .mk U vs :: .mk W qs::q)=aR 5 from by unfold cT;rw[if_neg bT,if_neg bT,if_neg bT,if_neg bT,if_pos rfl];exact if_neg hT3,aD bT];refine qn func73 call73 λβ hf=>?_;exact dw
end Go.Proofs
