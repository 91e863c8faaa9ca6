/- What data of package check answers. What world of package check answers. -/
import Derived.Test.YtlohbilpimjmmaaGreatDoorChk3
set_option maxHeartbeats 0
set_option linter.unusedVariables false
set_option linter.unusedSimpArgs false
set_option maxRecDepth 100000
namespace Go.Proofs
open Go.cu
attribute [local irreducible] AK ai bw bz aZ fG lE gh jv bA cw eX bf ju iB
theorem IW (P:Int) (args:List Nd) (H s:List Ty) (O:73<=P/\P<=83) (hf:bQ P args=some H) (S:qv s) (C:s.length<=9999999990):ah 70 [.int .i64 P,.sl 2 (aE H),.sl 2 (aE s)] (iU (ct P H s)):=by
 have N:P=73\/P=74\/P=75\/P=76\/P=77\/P=78\/P=79\/P=80\/P=81\/P=82\/P=83:=by omega
 clear O;rcases N with rfl|rfl|rfl|rfl|rfl|rfl|rfl|rfl|rfl|rfl|rfl
 ·obtain⟨rfl,rfl⟩:=cZ hf rfl;clear hf;rcases s with _|⟨⟨T,us⟩,_|⟨⟨U,vs⟩,q⟩⟩
  ·rw[show ct 73 ([]) ([])=aP 5 from by simp[ct,bS,aD,au,aad,aai,aS]];rw[aB cc];refine qn Tryz.func70 Tryz.call70 fun β hf=>?_;exact dw
  ·rw[show ct 73 ([]) ([.mk T us])=aP 5 from by simp[ct,bS,aD,au,aad,aai,aS]];rw[aB cc];refine qn Tryz.func70 Tryz.call70 fun β hf=>?_;exact dw
  have h1:=gH (.mk T us) (.mk U vs) tF;have h2:=kK (.mk T us) tF;cases g1:cP (.mk T us) (.mk U vs)
  ·rw[g1]at h1;rw[show ct 73 ([]) (.mk T us :: .mk U vs::q)=aP 5 from by simp[ct,bS,aD,au,aad,aai,aS,g1]];rw[aB cc];refine qn Tryz.func70 Tryz.call70 fun β hf=>?_;exact dw
  cases p:fG (.mk T us)
  ·rw[g1]at h1;rw[p]at h2;rw[show ct 73 ([]) (.mk T us :: .mk U vs::q)=aP 5 from by simp[ct,bS,aD,au,aad,aai,aS,g1,p]];rw[aB cc];refine qn Tryz.func70 Tryz.call70 fun β hf=>?_;exact dw
  ·rw[g1]at h1;rw[p]at h2;have M:=xg (aE (.mk T us :: .mk U vs::q)) 1 sk;have A:=bF (q) [.mk 3 []];rw[aG]at A;rw[show ct 73 ([]) (.mk T us :: .mk U vs::q)=ep (.mk 3 []::q)from by simp[ct,bS,aD,au,aad,aai,aS,g1,p]];rw[aG];refine qn Tryz.func70 Tryz.call70 fun β hf=>?_;have I:=cN 3;exact dw
 ·obtain⟨rfl,rfl⟩:=cZ hf rfl;clear hf;rcases s with _|⟨⟨T,us⟩,r⟩
  ·have D:=aj ([]) [3];rw[show gd ([]) [3]=false from by(simp[bX,bY,aV])<;>assumption]at D;rw[show ct 74 ([]) ([])=aP 5 from by simp[ct,bS,aD,au,aad,aai,aS]];rw[aB cc];refine qn Tryz.func70 Tryz.call70 fun β hf=>?_;exact dw
  by_cases K:T=3
  ·subst K;have D:=aj (.mk 3 us::r) [3];rw[show gd (.mk 3 us::r) [3]=true from by(simp[bX,bY,aV])<;>assumption]at D;have A:=bF (r) [.mk 2 []];rw[aG]at A;rw[show ct 74 ([]) (.mk 3 us::r)=ep (.mk 2 []::r)from by simp[ct,bS,aD,au,aad,aai,aS]];rw[aG];refine qn Tryz.func70 Tryz.call70 fun β hf=>?_;have G:=cN 2;exact dw
  ·have D:=aj (.mk T us::r) [3];rw[show gd (.mk T us::r) [3]=false from by(simp[bX,bY,aV,K])<;>assumption]at D;rw[show ct 74 ([]) (.mk T us::r)=aP 5 from by simp[ct,bS,aD,au,aad,aai,aS,K]];rw[aB cc];refine qn Tryz.func70 Tryz.call70 fun β hf=>?_;exact dw
 ·obtain⟨rfl,rfl⟩:=cZ hf rfl;clear hf;rcases s with _|⟨⟨T,us⟩,r⟩
  ·have D:=aj ([]) [3];rw[show gd ([]) [3]=false from by(simp[bX,bY,aV])<;>assumption]at D;rw[show ct 75 ([]) ([])=aP 5 from by simp[ct,bS,aD,au,aad,aai,aS]];rw[aB cc];refine qn Tryz.func70 Tryz.call70 fun β hf=>?_;exact dw
  by_cases K:T=3
  ·subst K;have D:=aj (.mk 3 us::r) [3];rw[show gd (.mk 3 us::r) [3]=true from by(simp[bX,bY,aV])<;>assumption]at D;have A:=bF (r) [.mk 2 []];rw[aG]at A;rw[show ct 75 ([]) (.mk 3 us::r)=ep (.mk 2 []::r)from by simp[ct,bS,aD,au,aad,aai,aS]];rw[aG];refine qn Tryz.func70 Tryz.call70 fun β hf=>?_;have E:=cN 2;exact dw
  ·have D:=aj (.mk T us::r) [3];rw[show gd (.mk T us::r) [3]=false from by(simp[bX,bY,aV,K])<;>assumption]at D;rw[show ct 75 ([]) (.mk T us::r)=aP 5 from by simp[ct,bS,aD,au,aad,aai,aS,K]];rw[aB cc];refine qn Tryz.func70 Tryz.call70 fun β hf=>?_;exact dw
 ·obtain⟨rfl,rfl⟩:=cZ hf rfl;clear hf;rcases s with _|⟨⟨T,us⟩,r⟩
  ·have D:=aj ([]) [3];rw[show gd ([]) [3]=false from by(simp[bX,bY,aV])<;>assumption]at D;rw[show ct 76 ([]) ([])=aP 5 from by simp[ct,bS,aD,au,aad,aai,aS]];rw[aB cc];refine qn Tryz.func70 Tryz.call70 fun β hf=>?_;exact dw
  by_cases K:T=3
  ·subst K;have D:=aj (.mk 3 us::r) [3];rw[show gd (.mk 3 us::r) [3]=true from by(simp[bX,bY,aV])<;>assumption]at D;have A:=bF (r) [.mk 2 []];rw[aG]at A;rw[show ct 76 ([]) (.mk 3 us::r)=ep (.mk 2 []::r)from by simp[ct,bS,aD,au,aad,aai,aS]];rw[aG];refine qn Tryz.func70 Tryz.call70 fun β hf=>?_;have B:=cN 2;exact dw
  ·have D:=aj (.mk T us::r) [3];rw[show gd (.mk T us::r) [3]=false from by(simp[bX,bY,aV,K])<;>assumption]at D;rw[show ct 76 ([]) (.mk T us::r)=aP 5 from by simp[ct,bS,aD,au,aad,aai,aS,K]];rw[aB cc];refine qn Tryz.func70 Tryz.call70 fun β hf=>?_;exact dw
 ·obtain⟨rfl,rfl⟩:=cZ hf rfl;clear hf;rcases s with _|⟨⟨T,us⟩,r⟩
  ·have D:=aj ([]) [2];rw[show gd ([]) [2]=false from by(simp[bX,bY,aV])<;>assumption]at D;rw[show ct 77 ([]) ([])=aP 5 from by simp[ct,bS,aD,au,aad,aai,aS]];rw[aB cc];refine qn Tryz.func70 Tryz.call70 fun β hf=>?_;exact dw
  by_cases K:T=2
  ·subst K;have D:=aj (.mk 2 us::r) [2];rw[show gd (.mk 2 us::r) [2]=true from by(simp[bX,bY,aV])<;>assumption]at D;have A:=jq (.mk 2 us::r);rw[aG]at A;rw[show ct 77 ([]) (.mk 2 us::r)=ep (.mk 2 us::r)from by simp[ct,bS,aD,au,aad,aai,aS]];rw[aG];refine qn Tryz.func70 Tryz.call70 fun β hf=>?_;exact dw
  ·have D:=aj (.mk T us::r) [2];rw[show gd (.mk T us::r) [2]=false from by(simp[bX,bY,aV,K])<;>assumption]at D;rw[show ct 77 ([]) (.mk T us::r)=aP 5 from by simp[ct,bS,aD,au,aad,aai,aS,K]];rw[aB cc];refine qn Tryz.func70 Tryz.call70 fun β hf=>?_;exact dw
 ·obtain⟨rfl,rfl⟩:=cZ hf rfl;clear hf;rcases s with _|⟨⟨T,us⟩,_|⟨⟨U,vs⟩,q⟩⟩
  ·have D:=aj ([]) [2,2];rw[show gd ([]) [2,2]=false from by(simp[bX,bY,aV])<;>assumption]at D;rw[show ct 78 ([]) ([])=aP 5 from by simp[ct,bS,aD,au,aad,aai,aS]];rw[aB cc];refine qn Tryz.func70 Tryz.call70 fun β hf=>?_;exact dw
  ·have D:=aj ([.mk T us]) [2,2];rw[show gd ([.mk T us]) [2,2]=false from by(simp[bX,bY,aV])<;>assumption]at D;rw[show ct 78 ([]) ([.mk T us])=aP 5 from by simp[ct,bS,aD,au,aad,aai,aS]];rw[aB cc];refine qn Tryz.func70 Tryz.call70 fun β hf=>?_;exact dw
  by_cases K:T=2/\U=2
  ·obtain⟨rfl,rfl⟩:=K;have D:=aj (.mk 2 us :: .mk 2 vs::q) [2,2];rw[show gd (.mk 2 us :: .mk 2 vs::q) [2,2]=true from by(simp[bX,bY,aV])<;>assumption]at D;have A:=jq (.mk 2 vs::q);rw[aG]at A;rw[show ct 78 ([]) (.mk 2 us :: .mk 2 vs::q)=ep (.mk 2 vs::q)from by simp[ct,bS,aD,au,aad,aai,aS]];rw[aG];refine qn Tryz.func70 Tryz.call70 fun β hf=>?_;exact dw
  ·have W:T=2->¬U=2:=fun a b=>K ⟨a,b⟩;have D:=aj (.mk T us :: .mk U vs::q) [2,2];rw[show gd (.mk T us :: .mk U vs::q) [2,2]=false from by(simp[bX,bY,aV,W])<;>assumption]at D;rw[show ct 78 ([]) (.mk T us :: .mk U vs::q)=aP 5 from by simp[ct,bS,aD,au,aad,aai,aS,K]];rw[aB cc];refine qn Tryz.func70 Tryz.call70 fun β hf=>?_;exact dw
 ·obtain⟨rfl,rfl⟩:=cZ hf rfl;clear hf;rcases s with _|⟨⟨T,us⟩,_|⟨⟨U,vs⟩,q⟩⟩
  ·have D:=aj ([]) [2,2];rw[show gd ([]) [2,2]=false from by(simp[bX,bY,aV])<;>assumption]at D;rw[show ct 79 ([]) ([])=aP 5 from by simp[ct,bS,aD,au,aad,aai,aS]];rw[aB cc];refine qn Tryz.func70 Tryz.call70 fun β hf=>?_;exact dw
  ·have D:=aj ([.mk T us]) [2,2];rw[show gd ([.mk T us]) [2,2]=false from by(simp[bX,bY,aV])<;>assumption]at D;rw[show ct 79 ([]) ([.mk T us])=aP 5 from by simp[ct,bS,aD,au,aad,aai,aS]];rw[aB cc];refine qn Tryz.func70 Tryz.call70 fun β hf=>?_;exact dw
  by_cases K:T=2/\U=2
  ·obtain⟨rfl,rfl⟩:=K;have D:=aj (.mk 2 us :: .mk 2 vs::q) [2,2];rw[show gd (.mk 2 us :: .mk 2 vs::q) [2,2]=true from by(simp[bX,bY,aV])<;>assumption]at D;have A:=jq (.mk 2 vs::q);rw[aG]at A;rw[show ct 79 ([]) (.mk 2 us :: .mk 2 vs::q)=ep (.mk 2 vs::q)from by simp[ct,bS,aD,au,aad,aai,aS]];rw[aG];refine qn Tryz.func70 Tryz.call70 fun β hf=>?_;exact dw
  ·have W:T=2->¬U=2:=fun a b=>K ⟨a,b⟩;have D:=aj (.mk T us :: .mk U vs::q) [2,2];rw[show gd (.mk T us :: .mk U vs::q) [2,2]=false from by(simp[bX,bY,aV,W])<;>assumption]at D;rw[show ct 79 ([]) (.mk T us :: .mk U vs::q)=aP 5 from by simp[ct,bS,aD,au,aad,aai,aS,K]];rw[aB cc];refine qn Tryz.func70 Tryz.call70 fun β hf=>?_;exact dw
 ·obtain⟨rfl,rfl⟩:=cZ hf rfl;clear hf;rcases s with _|⟨⟨T,us⟩,_|⟨⟨U,vs⟩,q⟩⟩
  ·have D:=aj ([]) [6,6];rw[show gd ([]) [6,6]=false from by(simp[bX,bY,aV])<;>assumption]at D;rw[show ct 80 ([]) ([])=aP 5 from by simp[ct,bS,aD,au,aad,aai,aS]];rw[aB cc];refine qn Tryz.func70 Tryz.call70 fun β hf=>?_;exact dw
  ·have D:=aj ([.mk T us]) [6,6];rw[show gd ([.mk T us]) [6,6]=false from by(simp[bX,bY,aV])<;>assumption]at D;rw[show ct 80 ([]) ([.mk T us])=aP 5 from by simp[ct,bS,aD,au,aad,aai,aS]];rw[aB cc];refine qn Tryz.func70 Tryz.call70 fun β hf=>?_;exact dw
  by_cases K:T=6/\U=6
  ·obtain⟨rfl,rfl⟩:=K;have D:=aj (.mk 6 us :: .mk 6 vs::q) [6,6];rw[show gd (.mk 6 us :: .mk 6 vs::q) [6,6]=true from by(simp[bX,bY,aV])<;>assumption]at D;have A:=jq (.mk 6 vs::q);rw[aG]at A;rw[show ct 80 ([]) (.mk 6 us :: .mk 6 vs::q)=ep (.mk 6 vs::q)from by simp[ct,bS,aD,au,aad,aai,aS]];rw[aG];refine qn Tryz.func70 Tryz.call70 fun β hf=>?_;exact dw
  ·have W:T=6->¬U=6:=fun a b=>K ⟨a,b⟩;have D:=aj (.mk T us :: .mk U vs::q) [6,6];rw[show gd (.mk T us :: .mk U vs::q) [6,6]=false from by(simp[bX,bY,aV,W])<;>assumption]at D;rw[show ct 80 ([]) (.mk T us :: .mk U vs::q)=aP 5 from by simp[ct,bS,aD,au,aad,aai,aS,K]];rw[aB cc];refine qn Tryz.func70 Tryz.call70 fun β hf=>?_;exact dw
 ·obtain⟨rfl,rfl⟩:=cZ hf rfl;clear hf;rcases s with _|⟨⟨T,us⟩,r⟩
  ·rw[show ct 81 ([]) ([])=aP 5 from by simp[ct,bS,aD,au,aad,aai,aS]];rw[aB cc];refine qn Tryz.func70 Tryz.call70 fun β hf=>?_;exact dw
  have h2:=mB (.mk T us) tF;have Q:=xg (aE (.mk T us::r)) 0 sk;cases p:gh (.mk T us)
  ·rw[p]at h2;rw[show ct 81 ([]) (.mk T us::r)=aP 5 from by simp[ct,bS,aD,au,aad,aai,aS,p]];rw[aB cc];refine qn Tryz.func70 Tryz.call70 fun β hf=>?_;exact dw
  ·rw[p]at h2;have A:=bF (r) [.mk 6 []];rw[aG]at A;rw[show ct 81 ([]) (.mk T us::r)=ep (.mk 6 []::r)from by simp[ct,bS,aD,au,aad,aai,aS,p]];rw[aG];refine qn Tryz.func70 Tryz.call70 fun β hf=>?_;have u:=cN 6;exact dw
 ·obtain⟨x,t,rfl,rfl,J⟩:=vO hf rfl;clear hf;have VX:=J.2;obtain⟨V,Y⟩:=t;have h2:=mB (.mk V Y) bn;rcases s with _|⟨⟨T,us⟩,r⟩
  ·have D:=aj ([]) [6];rw[show gd ([]) [6]=false from by(simp[bX,bY,aV])<;>assumption]at D;rw[show ct 82 ([.mk V Y]) ([])=aP 5 from by simp[ct,bS,aD,au,aad,aai,aS]];rw[aB cc];refine qn Tryz.func70 Tryz.call70 fun β hf=>?_;exact dw
  by_cases K:T=6
  ·subst K;have D:=aj (.mk 6 us::r) [6];rw[show gd (.mk 6 us::r) [6]=true from by(simp[bX,bY,aV])<;>assumption]at D;cases p:gh (.mk V Y)
   ·rw[p]at h2;rw[show ct 82 ([.mk V Y]) (.mk 6 us::r)=aP 5 from by simp[ct,bS,aD,au,aad,aai,aS,p]];rw[aB cc];refine qn Tryz.func70 Tryz.call70 fun β hf=>?_;exact dw
   ·rw[p]at h2;have A:=bF (r) [.mk 9 [.mk V Y]];rw[aG]at A;rw[show ct 82 ([.mk V Y]) (.mk 6 us::r)=ep (.mk 9 [.mk V Y]::r)from by simp[ct,bS,aD,au,aad,aai,aS,p]];rw[aG];refine qn Tryz.func70 Tryz.call70 fun β hf=>?_;have LB:=dG 9 [.mk V Y];exact dw
  ·have D:=aj (.mk T us::r) [6];rw[show gd (.mk T us::r) [6]=false from by(simp[bX,bY,aV,K])<;>assumption]at D;rw[show ct 82 ([.mk V Y]) (.mk T us::r)=aP 5 from by simp[ct,bS,aD,au,aad,aai,aS,K]];rw[aB cc];refine qn Tryz.func70 Tryz.call70 fun β hf=>?_;exact dw
 ·obtain⟨rfl,rfl⟩:=cZ hf rfl;clear hf;rcases s with _|⟨⟨T,us⟩,r⟩
  ·rw[show ct 83 ([]) ([])=aP 5 from by simp[ct,bS,aD,au,aad,aai,aS]];rw[aB cc];refine qn Tryz.func70 Tryz.call70 fun β hf=>?_;exact dw
  have h2:=mB (.mk T us) tF;have Q:=xg (aE (.mk T us::r)) 0 sk;cases p:gh (.mk T us)
  ·rw[p]at h2;rw[show ct 83 ([]) (.mk T us::r)=aP 5 from by simp[ct,bS,aD,au,aad,aai,aS,p]];rw[aB cc];refine qn Tryz.func70 Tryz.call70 fun β hf=>?_;exact dw
  ·rw[p]at h2;rw[show ct 83 ([]) (.mk T us::r)=(([],true),0)from by simp[ct,bS,aD,au,aad,aai,aS,p]];rw[IF];refine qn Tryz.func70 Tryz.call70 fun β hf=>?_;exact dw
end Go.Proofs
namespace Go.Proofs
open Go.cu
attribute [local irreducible] AK ai bw bz aZ fG lE gh jv bA cw eX bf ju iB
theorem GI (P:Int) (args:List Nd) (H s:List Ty) (C:84<=P/\P<=92) (hf:bQ P args=some H) (M:qv s) (hl:s.length<=9999999990):ah 71 [.int .i64 P,.sl 2 (aE H),.sl 2 (aE s)] (iU (b8 P H s)):=by
 have B:P=84\/P=85\/P=86\/P=87\/P=88\/P=89\/P=90\/P=91\/P=92:=by omega
 clear C;rcases B with rfl|rfl|rfl|rfl|rfl|rfl|rfl|rfl|rfl
 ·obtain⟨rfl,rfl⟩:=cZ hf rfl;clear hf;rcases s with _|⟨⟨T,us⟩,_|⟨⟨U,vs⟩,q⟩⟩
  ·have D:=aj ([]) [0,4];rw[show gd ([]) [0,4]=false from by(simp[bX,bY,aV])<;>assumption]at D;rw[show b8 84 ([]) ([])=aP 5 from by simp[b8,bS,aD,au,aad,aai,aS]];rw[aB cc];refine qn Tryz.func71 Tryz.call71 fun β hf=>?_;exact dw
  ·have D:=aj ([.mk T us]) [0,4];rw[show gd ([.mk T us]) [0,4]=false from by(simp[bX,bY,aV])<;>assumption]at D;rw[show b8 84 ([]) ([.mk T us])=aP 5 from by simp[b8,bS,aD,au,aad,aai,aS]];rw[aB cc];refine qn Tryz.func71 Tryz.call71 fun β hf=>?_;exact dw
  have h2:=kK (.mk T us) Fl;by_cases N:U=4
  ·subst N;have D:=aj (.mk T us :: .mk 4 vs::q) [0,4];rw[show gd (.mk T us :: .mk 4 vs::q) [0,4]=true from by(simp[bX,bY,aV])<;>assumption]at D;cases p:fG (.mk T us)
   ·rw[p]at h2;rw[show b8 84 ([]) (.mk T us :: .mk 4 vs::q)=aP 5 from by simp[b8,bS,aD,au,aad,aai,aS,p]];rw[aB cc];refine qn Tryz.func71 Tryz.call71 fun β hf=>?_;exact dw
   ·rw[p]at h2;have A:=bF (q) [.mk 9 [.mk 15 [.mk T us]]];rw[aG]at A;rw[show b8 84 ([]) (.mk T us :: .mk 4 vs::q)=ep (.mk 9 [.mk 15 [.mk T us]]::q)from by simp[b8,bS,aD,au,aad,aai,aS,p]];rw[aG];refine qn Tryz.func71 Tryz.call71 fun β hf=>?_;have tW:=dG 15 [.mk T us];have BD:=dG 9 [.mk 15 [.mk T us]];exact dw
  ·have D:=aj (.mk T us :: .mk U vs::q) [0,4];rw[show gd (.mk T us :: .mk U vs::q) [0,4]=false from by(simp[bX,bY,aV,N])<;>assumption]at D;rw[show b8 84 ([]) (.mk T us :: .mk U vs::q)=aP 5 from by simp[b8,bS,aD,au,aad,aai,aS,N]];rw[aB cc];refine qn Tryz.func71 Tryz.call71 fun β hf=>?_;exact dw
 ·obtain⟨rfl,rfl⟩:=cZ hf rfl;clear hf;rcases s with _|⟨⟨T,us⟩,r⟩
  ·have D:=aj ([]) [15];rw[show gd ([]) [15]=false from by(simp[bX,bY,aV])<;>assumption]at D;rw[show b8 85 ([]) ([])=aP 5 from by simp[b8,bS,aD,au,aad,aai,aS]];rw[aB cc];refine qn Tryz.func71 Tryz.call71 fun β hf=>?_;exact dw
  by_cases K:T=15
  ·subst K;obtain⟨⟨X,xs⟩,rfl,hx⟩:=eY (M _ (List.mem_cons_self ..)) rfl;have D:=aj (.mk 15 [.mk X xs]::r) [15];rw[show gd (.mk 15 [.mk X xs]::r) [15]=true from by(simp[bX,bY,aV])<;>assumption]at D;have A:=bF (.mk 15 [.mk X xs]::r) [.mk 11 [.mk 7 [],.mk 11 [.mk X xs,.mk 4 []]]];rw[aG]at A;rw[show b8 85 ([]) (.mk 15 [.mk X xs]::r)=ep (.mk 11 [.mk 7 [],.mk 11 [.mk X xs,.mk 4 []]] :: .mk 15 [.mk X xs]::r)from by simp[b8,bS,aD,au,aad,aai,aS]];rw[aG];refine qn Tryz.func71 Tryz.call71 fun β hf=>?_;have GH:=cN 7;have IU:=cN 4;have IV:=dG 11 [.mk X xs,.mk 4 []];have LB:=dG 11 [.mk 7 [],.mk 11 [.mk X xs,.mk 4 []]];exact dw
  ·have D:=aj (.mk T us::r) [15];rw[show gd (.mk T us::r) [15]=false from by(simp[bX,bY,aV,K])<;>assumption]at D;rw[show b8 85 ([]) (.mk T us::r)=aP 5 from by simp[b8,bS,aD,au,aad,aai,aS,K]];rw[aB cc];refine qn Tryz.func71 Tryz.call71 fun β hf=>?_;exact dw
 ·obtain⟨rfl,rfl⟩:=cZ hf rfl;clear hf;rcases s with _|⟨⟨T,us⟩,_|⟨⟨U,vs⟩,q⟩⟩
  ·have D:=aj ([]) [15,11];rw[show gd ([]) [15,11]=false from by(simp[bX,bY,aV])<;>assumption]at D;rw[show b8 86 ([]) ([])=aP 5 from by simp[b8,bS,aD,au,aad,aai,aS]];rw[aB cc];refine qn Tryz.func71 Tryz.call71 fun β hf=>?_;exact dw
  ·have D:=aj ([.mk T us]) [15,11];rw[show gd ([.mk T us]) [15,11]=false from by(simp[bX,bY,aV])<;>assumption]at D;rw[show b8 86 ([]) ([.mk T us])=aP 5 from by simp[b8,bS,aD,au,aad,aai,aS]];rw[aB cc];refine qn Tryz.func71 Tryz.call71 fun β hf=>?_;exact dw
  by_cases K:T=15/\U=11
  ·obtain⟨rfl,rfl⟩:=K;obtain⟨⟨X,xs⟩,⟨Y,S⟩,rfl,hx,hy⟩:=eN (M (.mk 11 vs) cn) rfl;have D:=aj (.mk 15 us :: .mk 11 [.mk X xs,.mk Y S]::q) [15,11];rw[show gd (.mk 15 us :: .mk 11 [.mk X xs,.mk Y S]::q) [15,11]=true from by(simp[bX,bY,aV])<;>assumption]at D;by_cases hX:X=4
   ·subst hX;by_cases J:Y=4
    ·subst J;have A:=bF (q) [.mk 9 [.mk 11 [.mk 15 us,.mk 15 us]]];rw[aG]at A;rw[show b8 86 ([]) (.mk 15 us :: .mk 11 [.mk 4 xs,.mk 4 S]::q)=ep (.mk 9 [.mk 11 [.mk 15 us,.mk 15 us]]::q)from by simp[b8,bS,aD,au,aad,aai,aS]];rw[aG];refine qn Tryz.func71 Tryz.call71 fun β hf=>?_;have Re:=dG 11 [.mk 15 us,.mk 15 us];have Up:=dG 9 [.mk 11 [.mk 15 us,.mk 15 us]];exact dw
    ·have E:(Y==4)=false:=by simpa using J
     rw[show b8 86 ([]) (.mk 15 us :: .mk 11 [.mk 4 xs,.mk Y S]::q)=aP 5 from by simp[b8,bS,aD,au,aad,aai,aS,J]];rw[aB cc];refine qn Tryz.func71 Tryz.call71 fun β hf=>?_;exact dw
   ·have E:(X==4)=false:=by simpa using hX
    rw[show b8 86 ([]) (.mk 15 us :: .mk 11 [.mk X xs,.mk Y S]::q)=aP 5 from by simp[b8,bS,aD,au,aad,aai,aS,hX]];rw[aB cc];refine qn Tryz.func71 Tryz.call71 fun β hf=>?_;exact dw
  ·have I:T=15->¬U=11:=fun a b=>K ⟨a,b⟩;have D:=aj (.mk T us :: .mk U vs::q) [15,11];rw[show gd (.mk T us :: .mk U vs::q) [15,11]=false from by(simp[bX,bY,aV,I])<;>assumption]at D;have G:¬(T=15/\U=11/\bS (vs.getD 0 lF)=4/\bS (vs.getD 1 lF)=4):=fun h=>K ⟨h.1,h.2.1⟩;rw[show b8 86 ([]) (.mk T us :: .mk U vs::q)=aP 5 from by unfold b8;rw[if_neg cc,if_neg cc];dsimp only;rw[if_neg cc,if_neg cc,if_pos rfl];exact if_neg G,aB cc];refine qn Tryz.func71 Tryz.call71 fun β hf=>?_;exact dw
 ·obtain⟨rfl,rfl⟩:=cZ hf rfl;clear hf;rcases s with _|⟨⟨T,us⟩,r⟩
  ·have D:=aj ([]) [11];rw[show gd ([]) [11]=false from by(simp[bX,bY,aV])<;>assumption]at D;rw[show b8 87 ([]) ([])=aP 5 from by simp[b8,bS,aD,au,aad,aai,aS]];rw[aB cc];refine qn Tryz.func71 Tryz.call71 fun β hf=>?_;exact dw
  by_cases K:T=11
  ·subst K;obtain⟨⟨X,xs⟩,⟨Y,S⟩,rfl,hx,hy⟩:=eN (M (.mk 11 us) cn) rfl;have D:=aj (.mk 11 [.mk X xs,.mk Y S]::r) [11];rw[show gd (.mk 11 [.mk X xs,.mk Y S]::r) [11]=true from by(simp[bX,bY,aV])<;>assumption]at D;have Po:=hx.2;have h1:=gH (.mk X xs) (.mk Y S) bn;by_cases hX:X=15
   ·subst hX;cases g1:cP (.mk 15 xs) (.mk Y S)
    ·rw[g1]at h1;rw[show b8 87 ([]) (.mk 11 [.mk 15 xs,.mk Y S]::r)=aP 5 from by simp[b8,bS,aD,au,aad,aai,aS,g1]];rw[aB cc];refine qn Tryz.func71 Tryz.call71 fun β hf=>?_;exact dw
    ·rw[g1]at h1;have A:=bF (r) [.mk 9 [.mk 15 xs]];rw[aG]at A;rw[show b8 87 ([]) (.mk 11 [.mk 15 xs,.mk Y S]::r)=ep (.mk 9 [.mk 15 xs]::r)from by simp[b8,bS,aD,au,aad,aai,aS,g1]];rw[aG];refine qn Tryz.func71 Tryz.call71 fun β hf=>?_;have YD:=dG 9 [.mk 15 xs];exact dw
   ·have E:(X==15)=false:=by simpa using hX
    rw[show b8 87 ([]) (.mk 11 [.mk X xs,.mk Y S]::r)=aP 5 from by simp[b8,bS,aD,au,aad,aai,aS,hX]];rw[aB cc];refine qn Tryz.func71 Tryz.call71 fun β hf=>?_;exact dw
  ·have D:=aj (.mk T us::r) [11];rw[show gd (.mk T us::r) [11]=false from by(simp[bX,bY,aV,K])<;>assumption]at D;rw[show b8 87 ([]) (.mk T us::r)=aP 5 from by simp[b8,bS,aD,au,aad,aai,aS,K]];rw[aB cc];refine qn Tryz.func71 Tryz.call71 fun β hf=>?_;exact dw
 ·obtain⟨x0,t,rfl,rfl,u⟩:=vO hf rfl;clear hf;have VX:=u.2;obtain⟨V,Q⟩:=t;rcases s with _|⟨⟨T,us⟩,_|⟨⟨U,vs⟩,_|⟨⟨W,O⟩,q⟩⟩⟩
  ·have D:=aj ([]) [0,5,7];rw[show gd ([]) [0,5,7]=false from by(simp[bX,bY,aV])<;>assumption]at D;rw[show b8 88 ([.mk V Q]) ([])=aP 5 from by simp[b8,bS,aD,au,aad,aai,aS]];rw[aB cc];refine qn Tryz.func71 Tryz.call71 fun β hf=>?_;exact dw
  ·have D:=aj ([.mk T us]) [0,5,7];rw[show gd ([.mk T us]) [0,5,7]=false from by(simp[bX,bY,aV])<;>assumption]at D;rw[show b8 88 ([.mk V Q]) ([.mk T us])=aP 5 from by simp[b8,bS,aD,au,aad,aai,aS]];rw[aB cc];refine qn Tryz.func71 Tryz.call71 fun β hf=>?_;exact dw
  ·have D:=aj ([.mk T us,.mk U vs]) [0,5,7];rw[show gd ([.mk T us,.mk U vs]) [0,5,7]=false from by(simp[bX,bY,aV])<;>assumption]at D;rw[show b8 88 ([.mk V Q]) ([.mk T us,.mk U vs])=aP 5 from by simp[b8,bS,aD,au,aad,aai,aS]];rw[aB cc];refine qn Tryz.func71 Tryz.call71 fun β hf=>?_;exact dw
  have h1:=gH (.mk T us) (.mk V Q) Fl;have h2:=yp (.mk T us) Fl;by_cases N:U=5/\W=7
  ·obtain⟨rfl,rfl⟩:=N;have D:=aj (.mk T us :: .mk 5 vs :: .mk 7 O::q) [0,5,7];rw[show gd (.mk T us :: .mk 5 vs :: .mk 7 O::q) [0,5,7]=true from by(simp[bX,bY,aV])<;>assumption]at D;cases g1:cP (.mk T us) (.mk V Q)
   ·rw[g1]at h1;rw[show b8 88 ([.mk V Q]) (.mk T us :: .mk 5 vs :: .mk 7 O::q)=aP 5 from by simp[b8,bS,aD,au,aad,aai,aS,g1]];rw[aB cc];refine qn Tryz.func71 Tryz.call71 fun β hf=>?_;exact dw
   cases p:jv (.mk T us)
   ·rw[g1]at h1;rw[p]at h2;rw[show b8 88 ([.mk V Q]) (.mk T us :: .mk 5 vs :: .mk 7 O::q)=aP 5 from by simp[b8,bS,aD,au,aad,aai,aS,g1,p]];rw[aB cc];refine qn Tryz.func71 Tryz.call71 fun β hf=>?_;exact dw
   ·rw[g1]at h1;rw[p]at h2;have A:=bF (q) [.mk 8 []];rw[aG]at A;rw[show b8 88 ([.mk V Q]) (.mk T us :: .mk 5 vs :: .mk 7 O::q)=ep (.mk 8 []::q)from by simp[b8,bS,aD,au,aad,aai,aS,g1,p]];rw[aG];refine qn Tryz.func71 Tryz.call71 fun β hf=>?_;have VU:=cN 8;exact dw
  ·have I:U=5->¬W=7:=fun a b=>N ⟨a,b⟩;have D:=aj (.mk T us :: .mk U vs :: .mk W O::q) [0,5,7];rw[show gd (.mk T us :: .mk U vs :: .mk W O::q) [0,5,7]=false from by(simp[bX,bY,aV,I])<;>assumption]at D;have G:¬(U=5/\W=7/\cP (.mk T us) (.mk V Q)=true/\jv (.mk T us)=true):=fun h=>N ⟨h.1,h.2.1⟩;rw[show b8 88 ([.mk V Q]) (.mk T us :: .mk U vs :: .mk W O::q)=aP 5 from by unfold b8;rw[if_neg cc,if_neg cc];dsimp only;rw[if_neg cc,if_neg cc,if_neg cc,if_neg cc,if_pos rfl];exact if_neg G,aB cc];refine qn Tryz.func71 Tryz.call71 fun β hf=>?_;exact dw
 ·obtain⟨rfl,rfl⟩:=cZ hf rfl;clear hf;have A:=bF (s) [.mk 7 []];rw[aG]at A;rw[show b8 89 ([]) (s)=ep (.mk 7 []::s)from by simp[b8,bS,aD,au,aad,aai,aS]];rw[aG];refine qn Tryz.func71 Tryz.call71 fun β hf=>?_;have VV:=cN 7;exact dw
 ·obtain⟨rfl,rfl⟩:=cZ hf rfl;clear hf;have A:=bF (s) [.mk 7 []];rw[aG]at A;rw[show b8 90 ([]) (s)=ep (.mk 7 []::s)from by simp[b8,bS,aD,au,aad,aai,aS]];rw[aG];refine qn Tryz.func71 Tryz.call71 fun β hf=>?_;have VW:=cN 7;exact dw
 ·obtain⟨rfl,rfl⟩:=cZ hf rfl;clear hf;have A:=bF (s) [.mk 5 []];rw[aG]at A;rw[show b8 91 ([]) (s)=ep (.mk 5 []::s)from by simp[b8,bS,aD,au,aad,aai,aS]];rw[aG];refine qn Tryz.func71 Tryz.call71 fun β hf=>?_;have YE:=cN 5;exact dw
 ·obtain⟨rfl,rfl⟩:=cZ hf rfl;clear hf;have A:=bF (s) [.mk 5 []];rw[aG]at A;rw[show b8 92 ([]) (s)=ep (.mk 5 []::s)from by simp[b8,bS,aD,au,aad,aai,aS]];rw[aG];refine qn Tryz.func71 Tryz.call71 fun β hf=>?_;have YF:=cN 5;exact dw
end Go.Proofs
