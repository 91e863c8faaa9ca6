/- What world of package check answers. -/
import Derived.Test.YtdnpapgijbhofaaGreatDoorChk3
open Go.Proofs.Tryz
set_option linter.defProp false
set_option maxHeartbeats 0
set_option linter.unusedVariables false
set_option linter.unusedSimpArgs false
set_option maxRecDepth 100000
namespace Go.Proofs
open Go.cM
attribute [local irreducible] AK ah aZ cx aW fq kH fO iV br cy fu aX iT gQ
def E5(P:Int)(E:L Nd)(G s:L Ty)(u:84<=P/\P<=92)(hf:bJ P E=some G)(K:pz s)(hl:s.length<=9999999990):aj 130 [.int .i64 P,.sl 2 (au G),.sl 2 (au s)] (iu (bU P G s)):=by
 have p:P=84\/P=85\/P=86\/P=87\/P=88\/P=89\/P=90\/P=91\/P=92:=by omega
 clear u;rcases p with rfl|rfl|rfl|rfl|rfl|rfl|rfl|rfl|rfl
 ·obtain⟨rfl,rfl⟩:=cW hf rfl;clear hf;rcases s with _|⟨⟨T,us⟩,_|⟨⟨U,vs⟩,q⟩⟩
  ·have D:=ai ([]) [0,4];rw[show fN ([]) [0,4]=false from by(simp[bR,bS,aU])<;>assumption]at D;rw[show bU 84 ([]) ([])=aM 5 from by simp[bU,bM,aD,aq,aae,aaf,aQ]];rw[aA cc];refine qn func130 call130 λβ hf=>?_;exact dw
  ·have D:=ai ([.mk T us]) [0,4];rw[show fN ([.mk T us]) [0,4]=false from by(simp[bR,bS,aU])<;>assumption]at D;rw[show bU 84 ([]) ([.mk T us])=aM 5 from by simp[bU,bM,aD,aq,aae,aaf,aQ]];rw[aA cc];refine qn func130 call130 λβ hf=>?_;exact dw
  have h2:=jU (.mk T us) Pn;by_cases M:U=4
  ·subst M;have D:=ai (.mk T us :: .mk 4 vs::q) [0,4];rw[show fN (.mk T us :: .mk 4 vs::q) [0,4]=true from by(simp[bR,bS,aU])<;>assumption]at D;cases H:fq (.mk T us)
   ·rw[H]at h2;rw[show bU 84 ([]) (.mk T us :: .mk 4 vs::q)=aM 5 from by simp[bU,bM,aD,aq,aae,aaf,aQ,H]];rw[aA cc];refine qn func130 call130 λβ hf=>?_;exact dw
   ·rw[H]at h2;have S:=bA (q) [.mk 9 [.mk 15 [.mk T us]]];rw[aF]at S;rw[show bU 84 ([]) (.mk T us :: .mk 4 vs::q)=dX (.mk 9 [.mk 15 [.mk T us]]::q)from by simp[bU,bM,aD,aq,aae,aaf,aQ,H]];rw[aF];refine qn func130 call130 λβ hf=>?_;have sQ:=dz 15 [.mk T us];have Bf:=dz 9 [.mk 15 [.mk T us]];exact dw
  ·have D:=ai (.mk T us :: .mk U vs::q) [0,4];rw[show fN (.mk T us :: .mk U vs::q) [0,4]=false from by(simp[bR,bS,aU,M])<;>assumption]at D;rw[show bU 84 ([]) (.mk T us :: .mk U vs::q)=aM 5 from by simp[bU,bM,aD,aq,aae,aaf,aQ,M]];rw[aA cc];refine qn func130 call130 λβ hf=>?_;exact dw
 ·obtain⟨rfl,rfl⟩:=cW hf rfl;clear hf;rcases s with _|⟨⟨T,us⟩,r⟩
  ·have D:=ai ([]) [15];rw[show fN ([]) [15]=false from by(simp[bR,bS,aU])<;>assumption]at D;rw[show bU 85 ([]) ([])=aM 5 from by simp[bU,bM,aD,aq,aae,aaf,aQ]];rw[aA cc];refine qn func130 call130 λβ hf=>?_;exact dw
  by_cases N:T=15
  ·subst N;obtain⟨⟨X,xs⟩,rfl,hx⟩:=eN (K _ (abB ..)) rfl;have D:=ai (.mk 15 [.mk X xs]::r) [15];rw[show fN (.mk 15 [.mk X xs]::r) [15]=true from by(simp[bR,bS,aU])<;>assumption]at D;have S:=bA (.mk 15 [.mk X xs]::r) [.mk 11 [.mk 7 [],.mk 11 [.mk X xs,.mk 4 []]]];rw[aF]at S;rw[show bU 85 ([]) (.mk 15 [.mk X xs]::r)=dX (.mk 11 [.mk 7 [],.mk 11 [.mk X xs,.mk 4 []]] :: .mk 15 [.mk X xs]::r)from by simp[bU,bM,aD,aq,aae,aaf,aQ]];rw[aF];refine qn func130 call130 λβ hf=>?_;have E4:=cK 7;have G5:=cK 4;have G6:=dz 11 [.mk X xs,.mk 4 []];have JW:=dz 11 [.mk 7 [],.mk 11 [.mk X xs,.mk 4 []]];exact dw
  ·have D:=ai (.mk T us::r) [15];rw[show fN (.mk T us::r) [15]=false from by(simp[bR,bS,aU,N])<;>assumption]at D;rw[show bU 85 ([]) (.mk T us::r)=aM 5 from by simp[bU,bM,aD,aq,aae,aaf,aQ,N]];rw[aA cc];refine qn func130 call130 λβ hf=>?_;exact dw
 ·obtain⟨rfl,rfl⟩:=cW hf rfl;clear hf;rcases s with _|⟨⟨T,us⟩,_|⟨⟨U,vs⟩,q⟩⟩
  ·have D:=ai ([]) [15,11];rw[show fN ([]) [15,11]=false from by(simp[bR,bS,aU])<;>assumption]at D;rw[show bU 86 ([]) ([])=aM 5 from by simp[bU,bM,aD,aq,aae,aaf,aQ]];rw[aA cc];refine qn func130 call130 λβ hf=>?_;exact dw
  ·have D:=ai ([.mk T us]) [15,11];rw[show fN ([.mk T us]) [15,11]=false from by(simp[bR,bS,aU])<;>assumption]at D;rw[show bU 86 ([]) ([.mk T us])=aM 5 from by simp[bU,bM,aD,aq,aae,aaf,aQ]];rw[aA cc];refine qn func130 call130 λβ hf=>?_;exact dw
  by_cases N:T=15/\U=11
  ·obtain⟨rfl,rfl⟩:=N;obtain⟨⟨X,xs⟩,⟨Y,Q⟩,rfl,hx,hy⟩:=eD (K (.mk 11 vs) ek) rfl;have D:=ai (.mk 15 us :: .mk 11 [.mk X xs,.mk Y Q]::q) [15,11];rw[show fN (.mk 15 us :: .mk 11 [.mk X xs,.mk Y Q]::q) [15,11]=true from by(simp[bR,bS,aU])<;>assumption]at D;by_cases hX:X=4
   ·subst hX;by_cases I:Y=4
    ·subst I;have S:=bA (q) [.mk 9 [.mk 11 [.mk 15 us,.mk 15 us]]];rw[aF]at S;rw[show bU 86 ([]) (.mk 15 us :: .mk 11 [.mk 4 xs,.mk 4 Q]::q)=dX (.mk 9 [.mk 11 [.mk 15 us,.mk 15 us]]::q)from by simp[bU,bM,aD,aq,aae,aaf,aQ]];rw[aF];refine qn func130 call130 λβ hf=>?_;have O9:=dz 11 [.mk 15 us,.mk 15 us];have Sg:=dz 9 [.mk 11 [.mk 15 us,.mk 15 us]];exact dw
    ·have A:(Y==4)=false:=by simpa using I
     rw[show bU 86 ([]) (.mk 15 us :: .mk 11 [.mk 4 xs,.mk Y Q]::q)=aM 5 from by simp[bU,bM,aD,aq,aae,aaf,aQ,I]];rw[aA cc];refine qn func130 call130 λβ hf=>?_;exact dw
   ·have A:(X==4)=false:=by simpa using hX
    rw[show bU 86 ([]) (.mk 15 us :: .mk 11 [.mk X xs,.mk Y Q]::q)=aM 5 from by simp[bU,bM,aD,aq,aae,aaf,aQ,hX]];rw[aA cc];refine qn func130 call130 λβ hf=>?_;exact dw
  ·have C:T=15->¬U=11:=λa b=>N ⟨a,b⟩;have D:=ai (.mk T us :: .mk U vs::q) [15,11];rw[show fN (.mk T us :: .mk U vs::q) [15,11]=false from by(simp[bR,bS,aU,C])<;>assumption]at D;have B:¬(T=15/\U=11/\bM (vs.getD 0 kG)=4/\bM (vs.getD 1 kG)=4):=λh=>N ⟨h.1,h.2.1⟩;rw[show bU 86 ([]) (.mk T us :: .mk U vs::q)=aM 5 from by unfold bU;rw[if_neg cc,if_neg cc];dsimp only;rw[if_neg cc,if_neg cc,if_pos rfl];exact if_neg B,aA cc];refine qn func130 call130 λβ hf=>?_;exact dw
 ·obtain⟨rfl,rfl⟩:=cW hf rfl;clear hf;rcases s with _|⟨⟨T,us⟩,r⟩
  ·have D:=ai ([]) [11];rw[show fN ([]) [11]=false from by(simp[bR,bS,aU])<;>assumption]at D;rw[show bU 87 ([]) ([])=aM 5 from by simp[bU,bM,aD,aq,aae,aaf,aQ]];rw[aA cc];refine qn func130 call130 λβ hf=>?_;exact dw
  by_cases N:T=11
  ·subst N;obtain⟨⟨X,xs⟩,⟨Y,Q⟩,rfl,hx,hy⟩:=eD (K (.mk 11 us) ek) rfl;have D:=ai (.mk 11 [.mk X xs,.mk Y Q]::r) [11];rw[show fN (.mk 11 [.mk X xs,.mk Y Q]::r) [11]=true from by(simp[bR,bS,aU])<;>assumption]at D;have VX:=hx.2;have h1:=gD (.mk X xs) (.mk Y Q) bn;by_cases hX:X=15
   ·subst hX;cases g1:cP (.mk 15 xs) (.mk Y Q)
    ·rw[g1]at h1;rw[show bU 87 ([]) (.mk 11 [.mk 15 xs,.mk Y Q]::r)=aM 5 from by simp[bU,bM,aD,aq,aae,aaf,aQ,g1]];rw[aA cc];refine qn func130 call130 λβ hf=>?_;exact dw
    ·rw[g1]at h1;have S:=bA (r) [.mk 9 [.mk 15 xs]];rw[aF]at S;rw[show bU 87 ([]) (.mk 11 [.mk 15 xs,.mk Y Q]::r)=dX (.mk 9 [.mk 15 xs]::r)from by simp[bU,bM,aD,aq,aae,aaf,aQ,g1]];rw[aF];refine qn func130 call130 λβ hf=>?_;have Wh:=dz 9 [.mk 15 xs];exact dw
   ·have A:(X==15)=false:=by simpa using hX
    rw[show bU 87 ([]) (.mk 11 [.mk X xs,.mk Y Q]::r)=aM 5 from by simp[bU,bM,aD,aq,aae,aaf,aQ,hX]];rw[aA cc];refine qn func130 call130 λβ hf=>?_;exact dw
  ·have D:=ai (.mk T us::r) [11];rw[show fN (.mk T us::r) [11]=false from by(simp[bR,bS,aU,N])<;>assumption]at D;rw[show bU 87 ([]) (.mk T us::r)=aM 5 from by simp[bU,bM,aD,aq,aae,aaf,aQ,N]];rw[aA cc];refine qn func130 call130 λβ hf=>?_;exact dw
 ·obtain⟨x0,t,rfl,rfl,ht⟩:=uo hf rfl;clear hf;have TP:=ht.2;obtain⟨V,J⟩:=t;rcases s with _|⟨⟨T,us⟩,_|⟨⟨U,vs⟩,_|⟨⟨W,O⟩,q⟩⟩⟩
  ·have D:=ai ([]) [0,5,7];rw[show fN ([]) [0,5,7]=false from by(simp[bR,bS,aU])<;>assumption]at D;rw[show bU 88 ([.mk V J]) ([])=aM 5 from by simp[bU,bM,aD,aq,aae,aaf,aQ]];rw[aA cc];refine qn func130 call130 λβ hf=>?_;exact dw
  ·have D:=ai ([.mk T us]) [0,5,7];rw[show fN ([.mk T us]) [0,5,7]=false from by(simp[bR,bS,aU])<;>assumption]at D;rw[show bU 88 ([.mk V J]) ([.mk T us])=aM 5 from by simp[bU,bM,aD,aq,aae,aaf,aQ]];rw[aA cc];refine qn func130 call130 λβ hf=>?_;exact dw
  ·have D:=ai ([.mk T us,.mk U vs]) [0,5,7];rw[show fN ([.mk T us,.mk U vs]) [0,5,7]=false from by(simp[bR,bS,aU])<;>assumption]at D;rw[show bU 88 ([.mk V J]) ([.mk T us,.mk U vs])=aM 5 from by simp[bU,bM,aD,aq,aae,aaf,aQ]];rw[aA cc];refine qn func130 call130 λβ hf=>?_;exact dw
  have h1:=gD (.mk T us) (.mk V J) Pn;have h2:=wQ (.mk T us) Pn;by_cases M:U=5/\W=7
  ·obtain⟨rfl,rfl⟩:=M;have D:=ai (.mk T us :: .mk 5 vs :: .mk 7 O::q) [0,5,7];rw[show fN (.mk T us :: .mk 5 vs :: .mk 7 O::q) [0,5,7]=true from by(simp[bR,bS,aU])<;>assumption]at D;cases g1:cP (.mk T us) (.mk V J)
   ·rw[g1]at h1;rw[show bU 88 ([.mk V J]) (.mk T us :: .mk 5 vs :: .mk 7 O::q)=aM 5 from by simp[bU,bM,aD,aq,aae,aaf,aQ,g1]];rw[aA cc];refine qn func130 call130 λβ hf=>?_;exact dw
   cases H:iV (.mk T us)
   ·rw[g1]at h1;rw[H]at h2;rw[show bU 88 ([.mk V J]) (.mk T us :: .mk 5 vs :: .mk 7 O::q)=aM 5 from by simp[bU,bM,aD,aq,aae,aaf,aQ,g1,H]];rw[aA cc];refine qn func130 call130 λβ hf=>?_;exact dw
   ·rw[g1]at h1;rw[H]at h2;have S:=bA (q) [.mk 8 []];rw[aF]at S;rw[show bU 88 ([.mk V J]) (.mk T us :: .mk 5 vs :: .mk 7 O::q)=dX (.mk 8 []::q)from by simp[bU,bM,aD,aq,aae,aaf,aQ,g1,H]];rw[aF];refine qn func130 call130 λβ hf=>?_;have TM:=cK 8;exact dw
  ·have C:U=5->¬W=7:=λa b=>M ⟨a,b⟩;have D:=ai (.mk T us :: .mk U vs :: .mk W O::q) [0,5,7];rw[show fN (.mk T us :: .mk U vs :: .mk W O::q) [0,5,7]=false from by(simp[bR,bS,aU,C])<;>assumption]at D;have B:¬(U=5/\W=7/\cP (.mk T us) (.mk V J)=true/\iV (.mk T us)=true):=λh=>M ⟨h.1,h.2.1⟩;rw[show bU 88 ([.mk V J]) (.mk T us :: .mk U vs :: .mk W O::q)=aM 5 from by unfold bU;rw[if_neg cc,if_neg cc];dsimp only;rw[if_neg cc,if_neg cc,if_neg cc,if_neg cc,if_pos rfl];exact if_neg B,aA cc];refine qn func130 call130 λβ hf=>?_;exact dw
 ·obtain⟨rfl,rfl⟩:=cW hf rfl;clear hf;have S:=bA (s) [.mk 7 []];rw[aF]at S;rw[show bU 89 ([]) (s)=dX (.mk 7 []::s)from by simp[bU,bM,aD,aq,aae,aaf,aQ]];rw[aF];refine qn func130 call130 λβ hf=>?_;have TN:=cK 7;exact dw
 ·obtain⟨rfl,rfl⟩:=cW hf rfl;clear hf;have S:=bA (s) [.mk 7 []];rw[aF]at S;rw[show bU 90 ([]) (s)=dX (.mk 7 []::s)from by simp[bU,bM,aD,aq,aae,aaf,aQ]];rw[aF];refine qn func130 call130 λβ hf=>?_;have TO:=cK 7;exact dw
 ·obtain⟨rfl,rfl⟩:=cW hf rfl;clear hf;have S:=bA (s) [.mk 5 []];rw[aF]at S;rw[show bU 91 ([]) (s)=dX (.mk 5 []::s)from by simp[bU,bM,aD,aq,aae,aaf,aQ]];rw[aF];refine qn func130 call130 λβ hf=>?_;have Wi:=cK 5;exact dw
 ·obtain⟨rfl,rfl⟩:=cW hf rfl;clear hf;have S:=bA (s) [.mk 5 []];rw[aF]at S;rw[show bU 92 ([]) (s)=dX (.mk 5 []::s)from by simp[bU,bM,aD,aq,aae,aaf,aQ]];rw[aF];refine qn func130 call130 λβ hf=>?_;have Wj:=cK 5;exact dw
end Go.Proofs
namespace Go.Proofs
open Go.cM
attribute [local irreducible] AK ah aZ cx aW fq kH fO iV br cy fu aX iT gQ
def Bj(P nN:Int)(nS:L UInt8)(E:L Nd)(S s:L Ty)(hP:46<=P/\P<=58)(hf:bJ P E=some S)(B:pz s)(hl:s.length<=9999999990)(hsz:aS E<=8589934593)
  (I:∀a∈E,∀s':L Ty,pz s'->s'.length<=s.length+1->aj 59 [.sl 5 (aG (cJ a)),.sl 2 (au s')] (sq (cy (cJ a) (s',false)))) :
  aj 125 [aY (.mk 2 nN P nS E),.sl 2 (au S),.sl 2 (au s)] (iu (aV P (aX E) S s)):=by
 have Nr:P=46\/P=47\/P=48\/P=49\/P=50\/P=51\/P=52\/P=53\/P=54\/P=55\/P=56\/P=57\/P=58:=by omega
 clear hP;rcases Nr with rfl|rfl|rfl|rfl|rfl|rfl|rfl|rfl|rfl|rfl|rfl|rfl|rfl
 ·obtain⟨rfl,rfl⟩:=cW hf rfl;clear hf;rcases s with _|⟨⟨T,us⟩,_|⟨⟨U,vs⟩,q⟩⟩
  ·rw[show aV 46 (aX ([])) ([]) ([])=aM 5 from by simp[aV,bM,aD,aq,aae,aaf,aQ]];rw[aA cc];refine qn func125 call125 λβ hf=>?_;exact dw
  ·rw[show aV 46 (aX ([])) ([]) ([.mk T us])=aM 5 from by simp[aV,bM,aD,aq,aae,aaf,aQ]];rw[aA cc];refine qn func125 call125 λβ hf=>?_;exact dw
  ·have el1:=vH (au (.mk T us :: .mk U vs::q)) 1 Ao;have W:=bA (q) [.mk 11 [.mk T us,.mk U vs]];rw[aF]at W;rw[show aV 46 (aX ([])) ([]) (.mk T us :: .mk U vs::q)=dX (.mk 11 [.mk T us,.mk U vs]::q)from by simp[aV,bM,aD,aq,aae,aaf,aQ]];rw[aF];refine qn func125 call125 λβ hf=>?_;have sQ:=dz 11 [.mk T us,.mk U vs];exact dw
 ·obtain⟨rfl,rfl⟩:=cW hf rfl;clear hf;rcases s with _|⟨⟨T,us⟩,r⟩
  ·rw[show aV 47 (aX ([])) ([]) ([])=aM 5 from by simp[aV,bM,aD,aq,aae,aaf,aQ]];rw[aA cc];refine qn func125 call125 λβ hf=>?_;exact dw
  by_cases N:T=11
  ·subst N;obtain⟨⟨X,H⟩,⟨Y,G⟩,rfl,hx,hy⟩:=eD (B (.mk 11 us) ek) rfl;have D:=ai (.mk 11 [.mk X H,.mk Y G]::r) [11];rw[show fN (.mk 11 [.mk X H,.mk Y G]::r) [11]=true from by(simp[bR,bS,aU])<;>assumption]at D;have W:=bA (r) [.mk X H,.mk Y G];rw[aF]at W;rw[show aV 47 (aX ([])) ([]) (.mk 11 [.mk X H,.mk Y G]::r)=dX (.mk X H :: .mk Y G::r)from by simp[aV,bM,aD,aq,aae,aaf,aQ]];rw[aF];refine qn func125 call125 λβ hf=>?_;exact dw
  ·have D:=ai (.mk T us::r) [11];rw[show fN (.mk T us::r) [11]=false from by(simp[bR,bS,aU,N])<;>assumption]at D;rw[show aV 47 (aX ([])) ([]) (.mk T us::r)=aM 5 from by simp[aV,bM,aD,aq,aae,aaf,aQ,N]];rw[aA cc];refine qn func125 call125 λβ hf=>?_;exact dw
 ·obtain⟨rfl,rfl⟩:=cW hf rfl;clear hf;rcases s with _|⟨⟨T,us⟩,r⟩
  ·rw[show aV 48 (aX ([])) ([]) ([])=aM 5 from by simp[aV,bM,aD,aq,aae,aaf,aQ]];rw[aA cc];refine qn func125 call125 λβ hf=>?_;exact dw
  by_cases N:T=11
  ·subst N;obtain⟨⟨X,H⟩,⟨Y,G⟩,rfl,hx,hy⟩:=eD (B (.mk 11 us) ek) rfl;have D:=ai (.mk 11 [.mk X H,.mk Y G]::r) [11];rw[show fN (.mk 11 [.mk X H,.mk Y G]::r) [11]=true from by(simp[bR,bS,aU])<;>assumption]at D;have W:=bA (r) [.mk X H];rw[aF]at W;rw[show aV 48 (aX ([])) ([]) (.mk 11 [.mk X H,.mk Y G]::r)=dX (.mk X H::r)from by simp[aV,bM,aD,aq,aae,aaf,aQ]];rw[aF];refine qn func125 call125 λβ hf=>?_;exact dw
  ·have D:=ai (.mk T us::r) [11];rw[show fN (.mk T us::r) [11]=false from by(simp[bR,bS,aU,N])<;>assumption]at D;rw[show aV 48 (aX ([])) ([]) (.mk T us::r)=aM 5 from by simp[aV,bM,aD,aq,aae,aaf,aQ,N]];rw[aA cc];refine qn func125 call125 λβ hf=>?_;exact dw
 ·obtain⟨rfl,rfl⟩:=cW hf rfl;clear hf;rcases s with _|⟨⟨T,us⟩,r⟩
  ·rw[show aV 49 (aX ([])) ([]) ([])=aM 5 from by simp[aV,bM,aD,aq,aae,aaf,aQ]];rw[aA cc];refine qn func125 call125 λβ hf=>?_;exact dw
  by_cases N:T=11
  ·subst N;obtain⟨⟨X,H⟩,⟨Y,G⟩,rfl,hx,hy⟩:=eD (B (.mk 11 us) ek) rfl;have D:=ai (.mk 11 [.mk X H,.mk Y G]::r) [11];rw[show fN (.mk 11 [.mk X H,.mk Y G]::r) [11]=true from by(simp[bR,bS,aU])<;>assumption]at D;have W:=bA (r) [.mk Y G];rw[aF]at W;rw[show aV 49 (aX ([])) ([]) (.mk 11 [.mk X H,.mk Y G]::r)=dX (.mk Y G::r)from by simp[aV,bM,aD,aq,aae,aaf,aQ]];rw[aF];refine qn func125 call125 λβ hf=>?_;exact dw
  ·have D:=ai (.mk T us::r) [11];rw[show fN (.mk T us::r) [11]=false from by(simp[bR,bS,aU,N])<;>assumption]at D;rw[show aV 49 (aX ([])) ([]) (.mk T us::r)=aM 5 from by simp[aV,bM,aD,aq,aae,aaf,aQ,N]];rw[aA cc];refine qn func125 call125 λβ hf=>?_;exact dw
 ·obtain⟨x0,t,rfl,rfl,ht⟩:=uo hf rfl;clear hf;have TP:=ht.2;obtain⟨V,J⟩:=t;rcases s with _|⟨⟨T,us⟩,r⟩
  ·rw[show aV 50 (aX ([x0])) ([.mk V J]) ([])=aM 5 from by simp[aV,bM,aD,aq,aae,aaf,aQ]];rw[aA cc];refine qn func125 call125 λβ hf=>?_;exact dw
  ·have W:=bA (r) [.mk 12 [.mk T us,.mk V J]];rw[aF]at W;rw[show aV 50 (aX ([x0])) ([.mk V J]) (.mk T us::r)=dX (.mk 12 [.mk T us,.mk V J]::r)from by simp[aV,bM,aD,aq,aae,aaf,aQ]];rw[aF];refine qn func125 call125 λβ hf=>?_;have Bf:=dz 12 [.mk T us,.mk V J];exact dw
 ·obtain⟨x0,t,rfl,rfl,ht⟩:=uo hf rfl;clear hf;have TP:=ht.2;obtain⟨V,J⟩:=t;rcases s with _|⟨⟨T,us⟩,r⟩
  ·rw[show aV 51 (aX ([x0])) ([.mk V J]) ([])=aM 5 from by simp[aV,bM,aD,aq,aae,aaf,aQ]];rw[aA cc];refine qn func125 call125 λβ hf=>?_;exact dw
  ·have W:=bA (r) [.mk 12 [.mk V J,.mk T us]];rw[aF]at W;rw[show aV 51 (aX ([x0])) ([.mk V J]) (.mk T us::r)=dX (.mk 12 [.mk V J,.mk T us]::r)from by simp[aV,bM,aD,aq,aae,aaf,aQ]];rw[aF];refine qn func125 call125 λβ hf=>?_;have E4:=dz 12 [.mk V J,.mk T us];exact dw
 ·obtain⟨Q,O,p,xs,M,K,C,G,rfl,rfl⟩:=wR hf rfl;clear hf;rcases s with _|⟨⟨T,us⟩,r⟩
  ·rw[show aV 52 (aX ([.mk 3 Q O p xs,.mk 3 M K C G])) ([]) ([])=aM 5 from by simp[aV,bM,aD,aq,aae,aaf,aQ]];rw[aA cc];refine qn func125 call125 λβ hf=>?_;exact dw
  by_cases N:T=12
  ·subst N;simp only[aac]at hl;have zr:=aR r;have A:=(mY B).2;obtain⟨⟨X,H⟩,⟨Y,qs⟩,rfl,hx,hy⟩:=eD (B (.mk 12 us) ek) rfl;have D:=ai (.mk 12 [.mk X H,.mk Y qs]::r) [12];rw[show fN (.mk 12 [.mk X H,.mk Y qs]::r) [12]=true from by(simp[bR,bS,aU])<;>assumption]at D;have w1:=I (.mk 3 Q O p xs) ek (.mk X H::r) (jX hx A) fc;have u:=jt xs (.mk X H::r,false) (jX hx A);have w2:=I (.mk 3 M K C G) ek (.mk Y qs::r) (jX hy A) fc;have o2:=jt G (.mk Y qs::r,false) (jX hy A);rw[show aV 52 (aX ([.mk 3 Q O p xs,.mk 3 M K C G])) ([]) (.mk 12 [.mk X H,.mk Y qs]::r)=cR (cy xs (.mk X H::r,false)) (cy G (.mk Y qs::r,false))from by simp[aV,bM,aD,aq,aae,aaf,aQ,aX]];simp only[cJ]at w1;generalize cy xs (.mk X H::r,false)=r1 at w1 u ⊢;obtain⟨⟨t1,b1⟩,e1⟩:=r1;simp only[aac]at u;simp only[cJ]at w2;generalize cy G (.mk Y qs::r,false)=r2 at w2 o2 ⊢;obtain⟨⟨t2,b2⟩,e2⟩:=r2;simp only[aac]at o2;have hm:=gW ((t1,b1),e1) ((t2,b2),e2) u.1 rE;generalize cR ((t1,b1),e1) ((t2,b2),e2)=rm at hm ⊢;obtain⟨⟨tm,bm⟩,em⟩:=rm;refine qn func125 call125 λβ hf=>?_;exact dw
  ·have D:=ai (.mk T us::r) [12];rw[show fN (.mk T us::r) [12]=false from by(simp[bR,bS,aU,N])<;>assumption]at D;rw[show aV 52 (aX ([.mk 3 Q O p xs,.mk 3 M K C G])) ([]) (.mk T us::r)=aM 5 from by simp[aV,bM,aD,aq,aae,aaf,aQ,N]];rw[aA cc];refine qn func125 call125 λβ hf=>?_;exact dw
 ·obtain⟨rfl,rfl⟩:=cW hf rfl;clear hf;rcases s with _|⟨⟨T,us⟩,r⟩
  ·rw[show aV 53 (aX ([])) ([]) ([])=aM 5 from by simp[aV,bM,aD,aq,aae,aaf,aQ]];rw[aA cc];refine qn func125 call125 λβ hf=>?_;exact dw
  ·have W:=bA (r) [.mk 9 [.mk T us]];rw[aF]at W;rw[show aV 53 (aX ([])) ([]) (.mk T us::r)=dX (.mk 9 [.mk T us]::r)from by simp[aV,bM,aD,aq,aae,aaf,aQ]];rw[aF];refine qn func125 call125 λβ hf=>?_;have G5:=dz 9 [.mk T us];exact dw
 ·obtain⟨x0,t,rfl,rfl,ht⟩:=uo hf rfl;clear hf;have TP:=ht.2;obtain⟨V,J⟩:=t;have W:=bA (s) [.mk 9 [.mk V J]];rw[aF]at W;rw[show aV 54 (aX ([x0])) ([.mk V J]) (s)=dX (.mk 9 [.mk V J]::s)from by simp[aV,bM,aD,aq,aae,aaf,aQ]];rw[aF];refine qn func125 call125 λβ hf=>?_;have G6:=dz 9 [.mk V J];exact dw
 ·obtain⟨Q,O,p,xs,M,K,C,G,rfl,rfl⟩:=wR hf rfl;clear hf;rcases s with _|⟨⟨T,us⟩,r⟩
  ·rw[show aV 55 (aX ([.mk 3 Q O p xs,.mk 3 M K C G])) ([]) ([])=aM 5 from by simp[aV,bM,aD,aq,aae,aaf,aQ]];rw[aA cc];refine qn func125 call125 λβ hf=>?_;exact dw
  by_cases N:T=9
  ·subst N;simp only[aac]at hl;have zr:=aR r;have A:=(mY B).2;obtain⟨⟨X,H⟩,rfl,hx⟩:=eN (B (.mk 9 us) ek) rfl;have D:=ai (.mk 9 [.mk X H]::r) [9];rw[show fN (.mk 9 [.mk X H]::r) [9]=true from by(simp[bR,bS,aU])<;>assumption]at D;have w1:=I (.mk 3 Q O p xs) ek (r) A fc;have u:=jt xs (r,false) A;have w2:=I (.mk 3 M K C G) ek (.mk X H::r) (jX hx A) fc;have o2:=jt G (.mk X H::r,false) (jX hx A);rw[show aV 55 (aX ([.mk 3 Q O p xs,.mk 3 M K C G])) ([]) (.mk 9 [.mk X H]::r)=cR (cy xs (r,false)) (cy G (.mk X H::r,false))from by simp[aV,bM,aD,aq,aae,aaf,aQ,aX]];simp only[cJ]at w1;generalize cy xs (r,false)=r1 at w1 u ⊢;obtain⟨⟨t1,b1⟩,e1⟩:=r1;simp only[aac]at u;simp only[cJ]at w2;generalize cy G (.mk X H::r,false)=r2 at w2 o2 ⊢;obtain⟨⟨t2,b2⟩,e2⟩:=r2;simp only[aac]at o2;have hm:=gW ((t1,b1),e1) ((t2,b2),e2) u.1 rE;generalize cR ((t1,b1),e1) ((t2,b2),e2)=rm at hm ⊢;obtain⟨⟨tm,bm⟩,em⟩:=rm;refine qn func125 call125 λβ hf=>?_;have JW:=eB r bn;exact dw
  ·have D:=ai (.mk T us::r) [9];rw[show fN (.mk T us::r) [9]=false from by(simp[bR,bS,aU,N])<;>assumption]at D;rw[show aV 55 (aX ([.mk 3 Q O p xs,.mk 3 M K C G])) ([]) (.mk T us::r)=aM 5 from by simp[aV,bM,aD,aq,aae,aaf,aQ,N]];rw[aA cc];refine qn func125 call125 λβ hf=>?_;exact dw
 ·obtain⟨x0,t,rfl,rfl,ht⟩:=uo hf rfl;clear hf;have TP:=ht.2;obtain⟨V,J⟩:=t;have W:=bA (s) [.mk 10 [.mk V J]];rw[aF]at W;rw[show aV 56 (aX ([x0])) ([.mk V J]) (s)=dX (.mk 10 [.mk V J]::s)from by simp[aV,bM,aD,aq,aae,aaf,aQ]];rw[aF];refine qn func125 call125 λβ hf=>?_;have O9:=dz 10 [.mk V J];exact dw
 ·obtain⟨rfl,rfl⟩:=cW hf rfl;clear hf;rcases s with _|⟨⟨T,us⟩,_|⟨⟨U,vs⟩,q⟩⟩
  ·rw[show aV 57 (aX ([])) ([]) ([])=aM 5 from by simp[aV,bM,aD,aq,aae,aaf,aQ]];rw[aA cc];refine qn func125 call125 λβ hf=>?_;exact dw
  ·have D:=ai ([.mk T us]) [0,10];rw[show fN ([.mk T us]) [0,10]=false from by(simp[bR,bS,aU])<;>assumption]at D;rw[show aV 57 (aX ([])) ([]) ([.mk T us])=aM 5 from by simp[aV,bM,aD,aq,aae,aaf,aQ]];rw[aA cc];refine qn func125 call125 λβ hf=>?_;exact dw
  by_cases hU:U=10
  ·subst hU;obtain⟨⟨X,H⟩,rfl,hx⟩:=eN (B (.mk 10 vs) ek) rfl;have D:=ai (.mk T us :: .mk 10 [.mk X H]::q) [0,10];rw[show fN (.mk T us :: .mk 10 [.mk X H]::q) [0,10]=true from by(simp[bR,bS,aU])<;>assumption]at D;have h1:=gD (.mk T us) (.mk X H) (by have:=(B (.mk T us) ek).2;omega);cases g1:cP (.mk T us) (.mk X H)
   ·rw[g1]at h1;rw[show aV 57 (aX ([])) ([]) (.mk T us :: .mk 10 [.mk X H]::q)=aM 5 from by simp[aV,bM,aD,aq,aae,aaf,aQ,g1]];rw[aA cc];refine qn func125 call125 λβ hf=>?_;exact dw
   ·rw[g1]at h1;have W:=iM (.mk 10 [.mk X H]::q);rw[aF]at W;rw[show aV 57 (aX ([])) ([]) (.mk T us :: .mk 10 [.mk X H]::q)=dX (.mk 10 [.mk X H]::q)from by simp[aV,bM,aD,aq,aae,aaf,aQ,g1]];rw[aF];refine qn func125 call125 λβ hf=>?_;exact dw
  ·have D:=ai (.mk T us :: .mk U vs::q) [0,10];rw[show fN (.mk T us :: .mk U vs::q) [0,10]=false from by(simp[bR,bS,aU,hU])<;>assumption]at D;rw[show aV 57 (aX ([])) ([]) (.mk T us :: .mk U vs::q)=aM 5 from by simp[aV,bM,aD,aq,aae,aaf,aQ,hU]];rw[aA cc];refine qn func125 call125 λβ hf=>?_;exact dw
 ·obtain⟨Q,O,p,xs,M,K,C,G,rfl,rfl⟩:=wR hf rfl;clear hf;rcases s with _|⟨⟨T,us⟩,r⟩
  ·rw[show aV 58 (aX ([.mk 3 Q O p xs,.mk 3 M K C G])) ([]) ([])=aM 5 from by simp[aV,bM,aD,aq,aae,aaf,aQ]];rw[aA cc];refine qn func125 call125 λβ hf=>?_;exact dw
  by_cases N:T=10
  ·subst N;simp only[aac]at hl;have zr:=aR r;have A:=(mY B).2;obtain⟨⟨X,H⟩,rfl,hx⟩:=eN (B (.mk 10 us) ek) rfl;have D:=ai (.mk 10 [.mk X H]::r) [10];rw[show fN (.mk 10 [.mk X H]::r) [10]=true from by(simp[bR,bS,aU])<;>assumption]at D;have w1:=I (.mk 3 Q O p xs) ek (.mk X H :: .mk 10 [.mk X H]::r) (jX hx B) fc;have u:=jt xs (.mk X H :: .mk 10 [.mk X H]::r,false) (jX hx B);have w2:=I (.mk 3 M K C G) ek (r) A fc;have o2:=jt G (r,false) A;rw[show aV 58 (aX ([.mk 3 Q O p xs,.mk 3 M K C G])) ([]) (.mk 10 [.mk X H]::r)=cR (cy xs (.mk X H :: .mk 10 [.mk X H]::r,false)) (cy G (r,false))from by simp[aV,bM,aD,aq,aae,aaf,aQ,aX]];simp only[cJ]at w1;generalize cy xs (.mk X H :: .mk 10 [.mk X H]::r,false)=r1 at w1 u ⊢;obtain⟨⟨t1,b1⟩,e1⟩:=r1;simp only[aac]at u;simp only[cJ]at w2;generalize cy G (r,false)=r2 at w2 o2 ⊢;obtain⟨⟨t2,b2⟩,e2⟩:=r2;simp only[aac]at o2;have hm:=gW ((t1,b1),e1) ((t2,b2),e2) u.1 rE;generalize cR ((t1,b1),e1) ((t2,b2),e2)=rm at hm ⊢;obtain⟨⟨tm,bm⟩,em⟩:=rm;refine qn func125 call125 λβ hf=>?_;have Sg:=eB r bn;exact dw
  ·have D:=ai (.mk T us::r) [10];rw[show fN (.mk T us::r) [10]=false from by(simp[bR,bS,aU,N])<;>assumption]at D;rw[show aV 58 (aX ([.mk 3 Q O p xs,.mk 3 M K C G])) ([]) (.mk T us::r)=aM 5 from by simp[aV,bM,aD,aq,aae,aaf,aQ,N]];rw[aA cc];refine qn func125 call125 λβ hf=>?_;exact dw
end Go.Proofs
namespace Go.Proofs
open Go.cM
attribute [local irreducible] AK ah aZ cx aW fq kH fO iV br cy fu aX iT gQ
def E6(P nN:Int)(nS:L UInt8)(J:L Nd)(Q s:L Ty)(hP:59<=P/\P<=63)(hf:bJ P J=some Q)(I:pz s)(hl:s.length<=9999999990)(hsz:aS J<=8589934593)
  (E:∀a∈J,∀s':L Ty,pz s'->s'.length<=s.length+1->aj 59 [.sl 5 (aG (cJ a)),.sl 2 (au s')] (sq (cy (cJ a) (s',false)))) :
  aj 126 [aY (.mk 2 nN P nS J),.sl 2 (au Q),.sl 2 (au s)] (iu (cH P (aX J) Q s)):=by
 have Nr:P=59\/P=60\/P=61\/P=62\/P=63:=by omega
 clear hP;rcases Nr with rfl|rfl|rfl|rfl|rfl
 ·obtain⟨rfl,rfl⟩:=cW hf rfl;clear hf;rcases s with _|⟨⟨T,us⟩,r⟩
  ·have S:=ai ([]) [6];rw[show fN ([]) [6]=false from by(simp[bR,bS,aU])<;>assumption]at S;have K:=ai ([]) [10];rw[show fN ([]) [10]=false from by(simp[bR,bS,aU])<;>assumption]at K;have N:=ai ([]) [13];rw[show fN ([]) [13]=false from by(simp[bR,bS,aU])<;>assumption]at N;rw[show cH 59 (aX ([])) ([]) ([])=aM 5 from by simp[cH,bM,aD,aq,aae,aaf,aQ]];rw[aA cc];refine qn func126 call126 λβ hf=>?_;exact dw
  by_cases B:T=6
  ·subst B;have S:=ai (.mk 6 us::r) [6];rw[show fN (.mk 6 us::r) [6]=true from by(simp[bR,bS,aU])<;>assumption]at S;have M:=bA (r) [.mk 4 []];rw[aF]at M;rw[show cH 59 (aX ([])) ([]) (.mk 6 us::r)=dX (.mk 4 []::r)from by simp[cH,bM,aD,aq,aae,aaf,aQ]];rw[aF];refine qn func126 call126 λβ hf=>?_;have sQ:=cK 4;exact dw
  by_cases A:T=10
  ·subst A;have S:=ai (.mk 10 us::r) [6];rw[show fN (.mk 10 us::r) [6]=false from by(simp[bR,bS,aU])<;>assumption]at S;have K:=ai (.mk 10 us::r) [10];rw[show fN (.mk 10 us::r) [10]=true from by(simp[bR,bS,aU])<;>assumption]at K;have M:=bA (r) [.mk 4 []];rw[aF]at M;rw[show cH 59 (aX ([])) ([]) (.mk 10 us::r)=dX (.mk 4 []::r)from by simp[cH,bM,aD,aq,aae,aaf,aQ]];rw[aF];refine qn func126 call126 λβ hf=>?_;have Bf:=cK 4;exact dw
  by_cases JX:T=13
  ·subst JX;have S:=ai (.mk 13 us::r) [6];rw[show fN (.mk 13 us::r) [6]=false from by(simp[bR,bS,aU])<;>assumption]at S;have K:=ai (.mk 13 us::r) [10];rw[show fN (.mk 13 us::r) [10]=false from by(simp[bR,bS,aU])<;>assumption]at K;have N:=ai (.mk 13 us::r) [13];rw[show fN (.mk 13 us::r) [13]=true from by(simp[bR,bS,aU])<;>assumption]at N;have M:=bA (r) [.mk 4 []];rw[aF]at M;rw[show cH 59 (aX ([])) ([]) (.mk 13 us::r)=dX (.mk 4 []::r)from by simp[cH,bM,aD,aq,aae,aaf,aQ]];rw[aF];refine qn func126 call126 λβ hf=>?_;have E4:=cK 4;exact dw
  ·have S:=ai (.mk T us::r) [6];rw[show fN (.mk T us::r) [6]=false from by(simp[bR,bS,aU,B])<;>assumption]at S;have K:=ai (.mk T us::r) [10];rw[show fN (.mk T us::r) [10]=false from by(simp[bR,bS,aU,A])<;>assumption]at K;have N:=ai (.mk T us::r) [13];rw[show fN (.mk T us::r) [13]=false from by(simp[bR,bS,aU,JX])<;>assumption]at N;rw[show cH 59 (aX ([])) ([]) (.mk T us::r)=aM 5 from by simp[cH,bM,aD,aq,aae,aaf,aQ,B,A,JX]];rw[aA cc];refine qn func126 call126 λβ hf=>?_;exact dw
 ·obtain⟨n1,p1,S1,xs,rfl,rfl⟩:=E7 hf rfl;clear hf;rcases s with _|⟨⟨T,us⟩,r⟩
  ·have S:=ai ([]) [10];rw[show fN ([]) [10]=false from by(simp[bR,bS,aU])<;>assumption]at S;have K:=ai ([]) [13];rw[show fN ([]) [13]=false from by(simp[bR,bS,aU])<;>assumption]at K;rw[show cH 60 (aX ([.mk 3 n1 p1 S1 xs])) ([]) ([])=aM 5 from by simp[cH,bM,aD,aq,aae,aaf,aQ]];rw[aA cc];refine qn func126 call126 λβ hf=>?_;exact dw
  by_cases B:T=10
  ·subst B;simp only[aac]at hl;have zr:=aR r;have nI:=(mY I).2;obtain⟨⟨X,H⟩,rfl,C⟩:=eN (I (.mk 10 us) ek) rfl;have S:=ai (.mk 10 [.mk X H]::r) [10];rw[show fN (.mk 10 [.mk X H]::r) [10]=true from by(simp[bR,bS,aU])<;>assumption]at S;have w1:=E (.mk 3 n1 p1 S1 xs) ek (.mk X H::r) (jX C nI) fc;have p:=jt xs (.mk X H::r,false) (jX C nI);rw[show cH 60 (aX ([.mk 3 n1 p1 S1 xs])) ([]) (.mk 10 [.mk X H]::r)=cR (cy xs (.mk X H::r,false)) (dX (r))from by simp[cH,bM,aD,aq,aae,aaf,aQ,aX]];simp only[cJ]at w1;generalize cy xs (.mk X H::r,false)=r1 at w1 p ⊢;obtain⟨⟨t1,b1⟩,e1⟩:=r1;simp only[aac]at p;change aZ _ _ _ _ (iu (cR ((t1,b1),e1) ((r,false),0)));have hm:=gW ((t1,b1),e1) ((r,false),0) p.1 rE;generalize cR ((t1,b1),e1) ((r,false),0)=rm at hm ⊢;obtain⟨⟨tm,bm⟩,em⟩:=rm;refine qn func126 call126 λβ hf=>?_;have G5:=eB r bn;exact dw
  by_cases A:T=13
  ·subst A;simp only[aac]at hl;have zr:=aR r;have nI:=(mY I).2;have C:kT (.mk 11 us):=wS (I (.mk 13 us) ek) Z;obtain⟨⟨X,H⟩,⟨Y,G⟩,rfl,hx1,hy1⟩:=eD C rfl;have S:=ai (.mk 13 [.mk X H,.mk Y G]::r) [10];rw[show fN (.mk 13 [.mk X H,.mk Y G]::r) [10]=false from by(simp[bR,bS,aU])<;>assumption]at S;have K:=ai (.mk 13 [.mk X H,.mk Y G]::r) [13];rw[show fN (.mk 13 [.mk X H,.mk Y G]::r) [13]=true from by(simp[bR,bS,aU])<;>assumption]at K;have w1:=E (.mk 3 n1 p1 S1 xs) ek (.mk 11 [.mk X H,.mk Y G]::r) (jX C nI) fc;have p:=jt xs (.mk 11 [.mk X H,.mk Y G]::r,false) (jX C nI);rw[show cH 60 (aX ([.mk 3 n1 p1 S1 xs])) ([]) (.mk 13 [.mk X H,.mk Y G]::r)=cR (cy xs (.mk 11 [.mk X H,.mk Y G]::r,false)) (dX (r))from by simp[cH,bM,aD,aq,aae,aaf,aQ,aX]];simp only[cJ]at w1;generalize cy xs (.mk 11 [.mk X H,.mk Y G]::r,false)=r1 at w1 p ⊢;obtain⟨⟨t1,b1⟩,e1⟩:=r1;simp only[aac]at p;change aZ _ _ _ _ (iu (cR ((t1,b1),e1) ((r,false),0)));have hm:=gW ((t1,b1),e1) ((r,false),0) p.1 rE;generalize cR ((t1,b1),e1) ((r,false),0)=rm at hm ⊢;obtain⟨⟨tm,bm⟩,em⟩:=rm;refine qn func126 call126 λβ hf=>?_;have G6:=dz 11 [.mk X H,.mk Y G];have JW:=eB r bn;exact dw
  ·have S:=ai (.mk T us::r) [10];rw[show fN (.mk T us::r) [10]=false from by(simp[bR,bS,aU,B])<;>assumption]at S;have K:=ai (.mk T us::r) [13];rw[show fN (.mk T us::r) [13]=false from by(simp[bR,bS,aU,A])<;>assumption]at K;rw[show cH 60 (aX ([.mk 3 n1 p1 S1 xs])) ([]) (.mk T us::r)=aM 5 from by simp[cH,bM,aD,aq,aae,aaf,aQ,B,A]];rw[aA cc];refine qn func126 call126 λβ hf=>?_;exact dw
 ·obtain⟨x0,y0,t,u,rfl,rfl,ht,hu⟩:=Pa hf rfl;clear hf;have TP:=ht.2;obtain⟨V,ws⟩:=t;have Sh:=hu.2;obtain⟨V2,G8⟩:=u;have h2:=jU (.mk V ws) bn;cases O:fq (.mk V ws)
  ·rw[O]at h2;rw[show cH 61 (aX ([x0,y0])) ([.mk V ws,.mk V2 G8]) (s)=aM 5 from by simp[cH,bM,aD,aq,aae,aaf,aQ,O]];rw[aA cc];refine qn func126 call126 λβ hf=>?_;exact dw
  ·rw[O]at h2;have M:=bA (s) [.mk 13 [.mk V ws,.mk V2 G8]];rw[aF]at M;rw[show cH 61 (aX ([x0,y0])) ([.mk V ws,.mk V2 G8]) (s)=dX (.mk 13 [.mk V ws,.mk V2 G8]::s)from by simp[cH,bM,aD,aq,aae,aaf,aQ,O]];rw[aF];refine qn func126 call126 λβ hf=>?_;have O9:=dz 13 [.mk V ws,.mk V2 G8];exact dw
 ·obtain⟨rfl,rfl⟩:=cW hf rfl;clear hf;rcases s with _|⟨⟨T,us⟩,_|⟨⟨U,vs⟩,q⟩⟩
  ·have D:=ai ([]) [0,13];rw[show fN ([]) [0,13]=false from by(simp[bR,bS,aU])<;>assumption]at D;rw[show cH 62 (aX ([])) ([]) ([])=aM 5 from by simp[cH,bM,aD,aq,aae,aaf,aQ]];rw[aA cc];refine qn func126 call126 λβ hf=>?_;exact dw
  ·have D:=ai ([.mk T us]) [0,13];rw[show fN ([.mk T us]) [0,13]=false from by(simp[bR,bS,aU])<;>assumption]at D;rw[show cH 62 (aX ([])) ([]) ([.mk T us])=aM 5 from by simp[cH,bM,aD,aq,aae,aaf,aQ]];rw[aA cc];refine qn func126 call126 λβ hf=>?_;exact dw
  by_cases hU:U=13
  ·subst hU;obtain⟨⟨X,H⟩,⟨Y,G⟩,rfl,C,hy⟩:=eD (I (.mk 13 vs) ek) rfl;have D:=ai (.mk T us :: .mk 13 [.mk X H,.mk Y G]::q) [0,13];rw[show fN (.mk T us :: .mk 13 [.mk X H,.mk Y G]::q) [0,13]=true from by(simp[bR,bS,aU])<;>assumption]at D;have hy2:=hy.2;have h1:=gD (.mk T us) (.mk X H) (by have:=(I (.mk T us) ek).2;omega);have h2:=qW (.mk Y G) bn;cases g1:cP (.mk T us) (.mk X H)
   ·rw[g1]at h1;rw[show cH 62 (aX ([])) ([]) (.mk T us :: .mk 13 [.mk X H,.mk Y G]::q)=aM 5 from by simp[cH,bM,aD,aq,aae,aaf,aQ,g1]];rw[aA cc];refine qn func126 call126 λβ hf=>?_;exact dw
   cases O:kH (.mk Y G)
   ·rw[g1]at h1;rw[O]at h2;rw[show cH 62 (aX ([])) ([]) (.mk T us :: .mk 13 [.mk X H,.mk Y G]::q)=aM 5 from by simp[cH,bM,aD,aq,aae,aaf,aQ,g1,O]];rw[aA cc];refine qn func126 call126 λβ hf=>?_;exact dw
   ·rw[g1]at h1;rw[O]at h2;have M:=bA (q) [.mk 9 [.mk Y G]];rw[aF]at M;rw[show cH 62 (aX ([])) ([]) (.mk T us :: .mk 13 [.mk X H,.mk Y G]::q)=dX (.mk 9 [.mk Y G]::q)from by simp[cH,bM,aD,aq,aae,aaf,aQ,g1,O]];rw[aF];refine qn func126 call126 λβ hf=>?_;have Sg:=dz 9 [.mk Y G];exact dw
  ·have D:=ai (.mk T us :: .mk U vs::q) [0,13];rw[show fN (.mk T us :: .mk U vs::q) [0,13]=false from by(simp[bR,bS,aU,hU])<;>assumption]at D;rw[show cH 62 (aX ([])) ([]) (.mk T us :: .mk U vs::q)=aM 5 from by simp[cH,bM,aD,aq,aae,aaf,aQ,hU]];rw[aA cc];refine qn func126 call126 λβ hf=>?_;exact dw
 ·obtain⟨rfl,rfl⟩:=cW hf rfl;clear hf;rcases s with _|⟨⟨T,us⟩,_|⟨⟨U,vs⟩,_|⟨⟨W,qs⟩,q⟩⟩⟩
  ·have D:=ai ([]) [0,9,13];rw[show fN ([]) [0,9,13]=false from by(simp[bR,bS,aU])<;>assumption]at D;rw[show cH 63 (aX ([])) ([]) ([])=aM 5 from by simp[cH,bM,aD,aq,aae,aaf,aQ]];rw[aA cc];refine qn func126 call126 λβ hf=>?_;exact dw
  ·have D:=ai ([.mk T us]) [0,9,13];rw[show fN ([.mk T us]) [0,9,13]=false from by(simp[bR,bS,aU])<;>assumption]at D;rw[show cH 63 (aX ([])) ([]) ([.mk T us])=aM 5 from by simp[cH,bM,aD,aq,aae,aaf,aQ]];rw[aA cc];refine qn func126 call126 λβ hf=>?_;exact dw
  ·have D:=ai ([.mk T us,.mk U vs]) [0,9,13];rw[show fN ([.mk T us,.mk U vs]) [0,9,13]=false from by(simp[bR,bS,aU])<;>assumption]at D;rw[show cH 63 (aX ([])) ([]) ([.mk T us,.mk U vs])=aM 5 from by simp[cH,bM,aD,aq,aae,aaf,aQ]];rw[aA cc];refine qn func126 call126 λβ hf=>?_;exact dw
  by_cases hU:U=9/\W=13
  ·obtain⟨rfl,rfl⟩:=hU;obtain⟨⟨X,H⟩,⟨Y,G⟩,rfl,C,hy⟩:=eD (I (.mk 13 qs) ek) rfl;obtain⟨⟨Zz,os⟩,rfl,hz⟩:=eN (I (.mk 9 vs) ek) rfl;have D:=ai (.mk T us :: .mk 9 [.mk Zz os] :: .mk 13 [.mk X H,.mk Y G]::q) [0,9,13];rw[show fN (.mk T us :: .mk 9 [.mk Zz os] :: .mk 13 [.mk X H,.mk Y G]::q) [0,9,13]=true from by(simp[bR,bS,aU])<;>assumption]at D;have R1:=hz.2;have h1:=gD (.mk T us) (.mk X H) (by have:=(I (.mk T us) ek).2;omega);have h2:=gD (.mk Zz os) (.mk Y G) bn;cases g1:cP (.mk T us) (.mk X H)
   ·rw[g1]at h1;rw[show cH 63 (aX ([])) ([]) (.mk T us :: .mk 9 [.mk Zz os] :: .mk 13 [.mk X H,.mk Y G]::q)=aM 5 from by simp[cH,bM,aD,aq,aae,aaf,aQ,g1]];rw[aA cc];refine qn func126 call126 λβ hf=>?_;exact dw
   cases O:cP (.mk Zz os) (.mk Y G)
   ·rw[g1]at h1;rw[O]at h2;rw[show cH 63 (aX ([])) ([]) (.mk T us :: .mk 9 [.mk Zz os] :: .mk 13 [.mk X H,.mk Y G]::q)=aM 5 from by simp[cH,bM,aD,aq,aae,aaf,aQ,g1,O]];rw[aA cc];refine qn func126 call126 λβ hf=>?_;exact dw
   ·rw[g1]at h1;rw[O]at h2;have M:=iM (.mk 13 [.mk X H,.mk Y G]::q);rw[aF]at M;rw[show cH 63 (aX ([])) ([]) (.mk T us :: .mk 9 [.mk Zz os] :: .mk 13 [.mk X H,.mk Y G]::q)=dX (.mk 13 [.mk X H,.mk Y G]::q)from by simp[cH,bM,aD,aq,aae,aaf,aQ,g1,O]];rw[aF];refine qn func126 call126 λβ hf=>?_;exact dw
  ·have JX:U=9->¬W=13:=λa b=>hU ⟨a,b⟩;have D:=ai (.mk T us :: .mk U vs :: .mk W qs::q) [0,9,13];rw[show fN (.mk T us :: .mk U vs :: .mk W qs::q) [0,9,13]=false from by(simp[bR,bS,aU,JX])<;>assumption]at D;have Wm:¬(U=9/\W=13/\cP (.mk T us) (qs.getD 0 kG)=true/\cP (vs.getD 0 kG) (qs.getD 1 kG)=true):=λh=>hU ⟨h.1,h.2.1⟩;rw[show cH 63 (aX ([])) ([]) (.mk T us :: .mk U vs :: .mk W qs::q)=aM 5 from by unfold cH;rw[if_neg cc,if_neg cc,if_neg cc,if_neg cc,if_pos rfl];exact if_neg Wm,aA cc];refine qn func126 call126 λβ hf=>?_;exact dw
end Go.Proofs
