/- What data of package check answers. What world of package check answers. -/
import Derived.Test.YtlohbilpimjmmaaGreatDoorChk3
set_option maxHeartbeats 0
set_option linter.unusedVariables false
set_option linter.unusedSimpArgs false
set_option maxRecDepth 100000
namespace Go.Proofs
open Go.cq
attribute [local irreducible] AK ai bh bt aZ fC lz ga ju bw cA fq bf jt iC
theorem Jf (P:Int) (args:List Nd) (B s:List Ty) (C:73<=P/\P<=83) (hf:bN P args=some B) (G:qx s) (p:s.length<=9999999990):ag 70 [.int .i64 P,.sl 2 (aq B),.sl 2 (aq s)] (iW (cn P B s)):=by
 have Q:P=73\/P=74\/P=75\/P=76\/P=77\/P=78\/P=79\/P=80\/P=81\/P=82\/P=83:=by omega
 clear C;rcases Q with rfl|rfl|rfl|rfl|rfl|rfl|rfl|rfl|rfl|rfl|rfl
 ·obtain⟨rfl,rfl⟩:=cY hf rfl;clear hf;rcases s with _|⟨⟨T,us⟩,_|⟨⟨U,vs⟩,q⟩⟩
  ·rw[show cn 73 ([]) ([])=aP 5 from by simp[cn,bR,aE,aA,aag,aah,aS]];rw[aD cc];refine qn Tryz.func70 Tryz.call70 fun β hf=>?_;exact dw
  ·rw[show cn 73 ([]) ([.mk T us])=aP 5 from by simp[cn,bR,aE,aA,aag,aah,aS]];rw[aD cc];refine qn Tryz.func70 Tryz.call70 fun β hf=>?_;exact dw
  have h1:=gF (.mk T us) (.mk U vs) gp;have h2:=kO (.mk T us) gp;cases g1:cP (.mk T us) (.mk U vs)
  ·rw[g1]at h1;rw[show cn 73 ([]) (.mk T us :: .mk U vs::q)=aP 5 from by simp[cn,bR,aE,aA,aag,aah,aS,g1]];rw[aD cc];refine qn Tryz.func70 Tryz.call70 fun β hf=>?_;exact dw
  cases Y:fC (.mk T us)
  ·rw[g1]at h1;rw[Y]at h2;rw[show cn 73 ([]) (.mk T us :: .mk U vs::q)=aP 5 from by simp[cn,bR,aE,aA,aag,aah,aS,g1,Y]];rw[aD cc];refine qn Tryz.func70 Tryz.call70 fun β hf=>?_;exact dw
  ·rw[g1]at h1;rw[Y]at h2;have O:=xx (aq (.mk T us :: .mk U vs::q)) 1 uf;have A:=bC (q) [.mk 3 []];rw[aG]at A;rw[show cn 73 ([]) (.mk T us :: .mk U vs::q)=ee (.mk 3 []::q)from by simp[cn,bR,aE,aA,aag,aah,aS,g1,Y]];rw[aG];refine qn Tryz.func70 Tryz.call70 fun β hf=>?_;have N:=cM 3;exact dw
 ·obtain⟨rfl,rfl⟩:=cY hf rfl;clear hf;rcases s with _|⟨⟨T,us⟩,r⟩
  ·have D:=aj ([]) [3];rw[show fY ([]) [3]=false from by(simp[bV,bW,aV])<;>assumption]at D;rw[show cn 74 ([]) ([])=aP 5 from by simp[cn,bR,aE,aA,aag,aah,aS]];rw[aD cc];refine qn Tryz.func70 Tryz.call70 fun β hf=>?_;exact dw
  by_cases E:T=3
  ·subst E;have D:=aj (.mk 3 us::r) [3];rw[show fY (.mk 3 us::r) [3]=true from by(simp[bV,bW,aV])<;>assumption]at D;have A:=bC (r) [.mk 2 []];rw[aG]at A;rw[show cn 74 ([]) (.mk 3 us::r)=ee (.mk 2 []::r)from by simp[cn,bR,aE,aA,aag,aah,aS]];rw[aG];refine qn Tryz.func70 Tryz.call70 fun β hf=>?_;have K:=cM 2;exact dw
  ·have D:=aj (.mk T us::r) [3];rw[show fY (.mk T us::r) [3]=false from by(simp[bV,bW,aV,E])<;>assumption]at D;rw[show cn 74 ([]) (.mk T us::r)=aP 5 from by simp[cn,bR,aE,aA,aag,aah,aS,E]];rw[aD cc];refine qn Tryz.func70 Tryz.call70 fun β hf=>?_;exact dw
 ·obtain⟨rfl,rfl⟩:=cY hf rfl;clear hf;rcases s with _|⟨⟨T,us⟩,r⟩
  ·have D:=aj ([]) [3];rw[show fY ([]) [3]=false from by(simp[bV,bW,aV])<;>assumption]at D;rw[show cn 75 ([]) ([])=aP 5 from by simp[cn,bR,aE,aA,aag,aah,aS]];rw[aD cc];refine qn Tryz.func70 Tryz.call70 fun β hf=>?_;exact dw
  by_cases E:T=3
  ·subst E;have D:=aj (.mk 3 us::r) [3];rw[show fY (.mk 3 us::r) [3]=true from by(simp[bV,bW,aV])<;>assumption]at D;have A:=bC (r) [.mk 2 []];rw[aG]at A;rw[show cn 75 ([]) (.mk 3 us::r)=ee (.mk 2 []::r)from by simp[cn,bR,aE,aA,aag,aah,aS]];rw[aG];refine qn Tryz.func70 Tryz.call70 fun β hf=>?_;have I:=cM 2;exact dw
  ·have D:=aj (.mk T us::r) [3];rw[show fY (.mk T us::r) [3]=false from by(simp[bV,bW,aV,E])<;>assumption]at D;rw[show cn 75 ([]) (.mk T us::r)=aP 5 from by simp[cn,bR,aE,aA,aag,aah,aS,E]];rw[aD cc];refine qn Tryz.func70 Tryz.call70 fun β hf=>?_;exact dw
 ·obtain⟨rfl,rfl⟩:=cY hf rfl;clear hf;rcases s with _|⟨⟨T,us⟩,r⟩
  ·have D:=aj ([]) [3];rw[show fY ([]) [3]=false from by(simp[bV,bW,aV])<;>assumption]at D;rw[show cn 76 ([]) ([])=aP 5 from by simp[cn,bR,aE,aA,aag,aah,aS]];rw[aD cc];refine qn Tryz.func70 Tryz.call70 fun β hf=>?_;exact dw
  by_cases E:T=3
  ·subst E;have D:=aj (.mk 3 us::r) [3];rw[show fY (.mk 3 us::r) [3]=true from by(simp[bV,bW,aV])<;>assumption]at D;have A:=bC (r) [.mk 2 []];rw[aG]at A;rw[show cn 76 ([]) (.mk 3 us::r)=ee (.mk 2 []::r)from by simp[cn,bR,aE,aA,aag,aah,aS]];rw[aG];refine qn Tryz.func70 Tryz.call70 fun β hf=>?_;have H:=cM 2;exact dw
  ·have D:=aj (.mk T us::r) [3];rw[show fY (.mk T us::r) [3]=false from by(simp[bV,bW,aV,E])<;>assumption]at D;rw[show cn 76 ([]) (.mk T us::r)=aP 5 from by simp[cn,bR,aE,aA,aag,aah,aS,E]];rw[aD cc];refine qn Tryz.func70 Tryz.call70 fun β hf=>?_;exact dw
 ·obtain⟨rfl,rfl⟩:=cY hf rfl;clear hf;rcases s with _|⟨⟨T,us⟩,r⟩
  ·have D:=aj ([]) [2];rw[show fY ([]) [2]=false from by(simp[bV,bW,aV])<;>assumption]at D;rw[show cn 77 ([]) ([])=aP 5 from by simp[cn,bR,aE,aA,aag,aah,aS]];rw[aD cc];refine qn Tryz.func70 Tryz.call70 fun β hf=>?_;exact dw
  by_cases E:T=2
  ·subst E;have D:=aj (.mk 2 us::r) [2];rw[show fY (.mk 2 us::r) [2]=true from by(simp[bV,bW,aV])<;>assumption]at D;have A:=jn (.mk 2 us::r);rw[aG]at A;rw[show cn 77 ([]) (.mk 2 us::r)=ee (.mk 2 us::r)from by simp[cn,bR,aE,aA,aag,aah,aS]];rw[aG];refine qn Tryz.func70 Tryz.call70 fun β hf=>?_;exact dw
  ·have D:=aj (.mk T us::r) [2];rw[show fY (.mk T us::r) [2]=false from by(simp[bV,bW,aV,E])<;>assumption]at D;rw[show cn 77 ([]) (.mk T us::r)=aP 5 from by simp[cn,bR,aE,aA,aag,aah,aS,E]];rw[aD cc];refine qn Tryz.func70 Tryz.call70 fun β hf=>?_;exact dw
 ·obtain⟨rfl,rfl⟩:=cY hf rfl;clear hf;rcases s with _|⟨⟨T,us⟩,_|⟨⟨U,vs⟩,q⟩⟩
  ·have D:=aj ([]) [2,2];rw[show fY ([]) [2,2]=false from by(simp[bV,bW,aV])<;>assumption]at D;rw[show cn 78 ([]) ([])=aP 5 from by simp[cn,bR,aE,aA,aag,aah,aS]];rw[aD cc];refine qn Tryz.func70 Tryz.call70 fun β hf=>?_;exact dw
  ·have D:=aj ([.mk T us]) [2,2];rw[show fY ([.mk T us]) [2,2]=false from by(simp[bV,bW,aV])<;>assumption]at D;rw[show cn 78 ([]) ([.mk T us])=aP 5 from by simp[cn,bR,aE,aA,aag,aah,aS]];rw[aD cc];refine qn Tryz.func70 Tryz.call70 fun β hf=>?_;exact dw
  by_cases E:T=2/\U=2
  ·obtain⟨rfl,rfl⟩:=E;have D:=aj (.mk 2 us :: .mk 2 vs::q) [2,2];rw[show fY (.mk 2 us :: .mk 2 vs::q) [2,2]=true from by(simp[bV,bW,aV])<;>assumption]at D;have A:=jn (.mk 2 vs::q);rw[aG]at A;rw[show cn 78 ([]) (.mk 2 us :: .mk 2 vs::q)=ee (.mk 2 vs::q)from by simp[cn,bR,aE,aA,aag,aah,aS]];rw[aG];refine qn Tryz.func70 Tryz.call70 fun β hf=>?_;exact dw
  ·have W:T=2->¬U=2:=fun a b=>E ⟨a,b⟩;have D:=aj (.mk T us :: .mk U vs::q) [2,2];rw[show fY (.mk T us :: .mk U vs::q) [2,2]=false from by(simp[bV,bW,aV,W])<;>assumption]at D;rw[show cn 78 ([]) (.mk T us :: .mk U vs::q)=aP 5 from by simp[cn,bR,aE,aA,aag,aah,aS,E]];rw[aD cc];refine qn Tryz.func70 Tryz.call70 fun β hf=>?_;exact dw
 ·obtain⟨rfl,rfl⟩:=cY hf rfl;clear hf;rcases s with _|⟨⟨T,us⟩,_|⟨⟨U,vs⟩,q⟩⟩
  ·have D:=aj ([]) [2,2];rw[show fY ([]) [2,2]=false from by(simp[bV,bW,aV])<;>assumption]at D;rw[show cn 79 ([]) ([])=aP 5 from by simp[cn,bR,aE,aA,aag,aah,aS]];rw[aD cc];refine qn Tryz.func70 Tryz.call70 fun β hf=>?_;exact dw
  ·have D:=aj ([.mk T us]) [2,2];rw[show fY ([.mk T us]) [2,2]=false from by(simp[bV,bW,aV])<;>assumption]at D;rw[show cn 79 ([]) ([.mk T us])=aP 5 from by simp[cn,bR,aE,aA,aag,aah,aS]];rw[aD cc];refine qn Tryz.func70 Tryz.call70 fun β hf=>?_;exact dw
  by_cases E:T=2/\U=2
  ·obtain⟨rfl,rfl⟩:=E;have D:=aj (.mk 2 us :: .mk 2 vs::q) [2,2];rw[show fY (.mk 2 us :: .mk 2 vs::q) [2,2]=true from by(simp[bV,bW,aV])<;>assumption]at D;have A:=jn (.mk 2 vs::q);rw[aG]at A;rw[show cn 79 ([]) (.mk 2 us :: .mk 2 vs::q)=ee (.mk 2 vs::q)from by simp[cn,bR,aE,aA,aag,aah,aS]];rw[aG];refine qn Tryz.func70 Tryz.call70 fun β hf=>?_;exact dw
  ·have W:T=2->¬U=2:=fun a b=>E ⟨a,b⟩;have D:=aj (.mk T us :: .mk U vs::q) [2,2];rw[show fY (.mk T us :: .mk U vs::q) [2,2]=false from by(simp[bV,bW,aV,W])<;>assumption]at D;rw[show cn 79 ([]) (.mk T us :: .mk U vs::q)=aP 5 from by simp[cn,bR,aE,aA,aag,aah,aS,E]];rw[aD cc];refine qn Tryz.func70 Tryz.call70 fun β hf=>?_;exact dw
 ·obtain⟨rfl,rfl⟩:=cY hf rfl;clear hf;rcases s with _|⟨⟨T,us⟩,_|⟨⟨U,vs⟩,q⟩⟩
  ·have D:=aj ([]) [6,6];rw[show fY ([]) [6,6]=false from by(simp[bV,bW,aV])<;>assumption]at D;rw[show cn 80 ([]) ([])=aP 5 from by simp[cn,bR,aE,aA,aag,aah,aS]];rw[aD cc];refine qn Tryz.func70 Tryz.call70 fun β hf=>?_;exact dw
  ·have D:=aj ([.mk T us]) [6,6];rw[show fY ([.mk T us]) [6,6]=false from by(simp[bV,bW,aV])<;>assumption]at D;rw[show cn 80 ([]) ([.mk T us])=aP 5 from by simp[cn,bR,aE,aA,aag,aah,aS]];rw[aD cc];refine qn Tryz.func70 Tryz.call70 fun β hf=>?_;exact dw
  by_cases E:T=6/\U=6
  ·obtain⟨rfl,rfl⟩:=E;have D:=aj (.mk 6 us :: .mk 6 vs::q) [6,6];rw[show fY (.mk 6 us :: .mk 6 vs::q) [6,6]=true from by(simp[bV,bW,aV])<;>assumption]at D;have A:=jn (.mk 6 vs::q);rw[aG]at A;rw[show cn 80 ([]) (.mk 6 us :: .mk 6 vs::q)=ee (.mk 6 vs::q)from by simp[cn,bR,aE,aA,aag,aah,aS]];rw[aG];refine qn Tryz.func70 Tryz.call70 fun β hf=>?_;exact dw
  ·have W:T=6->¬U=6:=fun a b=>E ⟨a,b⟩;have D:=aj (.mk T us :: .mk U vs::q) [6,6];rw[show fY (.mk T us :: .mk U vs::q) [6,6]=false from by(simp[bV,bW,aV,W])<;>assumption]at D;rw[show cn 80 ([]) (.mk T us :: .mk U vs::q)=aP 5 from by simp[cn,bR,aE,aA,aag,aah,aS,E]];rw[aD cc];refine qn Tryz.func70 Tryz.call70 fun β hf=>?_;exact dw
 ·obtain⟨rfl,rfl⟩:=cY hf rfl;clear hf;rcases s with _|⟨⟨T,us⟩,r⟩
  ·rw[show cn 81 ([]) ([])=aP 5 from by simp[cn,bR,aE,aA,aag,aah,aS]];rw[aD cc];refine qn Tryz.func70 Tryz.call70 fun β hf=>?_;exact dw
  have h2:=mG (.mk T us) gp;have S:=xx (aq (.mk T us::r)) 0 uf;cases Y:ga (.mk T us)
  ·rw[Y]at h2;rw[show cn 81 ([]) (.mk T us::r)=aP 5 from by simp[cn,bR,aE,aA,aag,aah,aS,Y]];rw[aD cc];refine qn Tryz.func70 Tryz.call70 fun β hf=>?_;exact dw
  ·rw[Y]at h2;have A:=bC (r) [.mk 6 []];rw[aG]at A;rw[show cn 81 ([]) (.mk T us::r)=ee (.mk 6 []::r)from by simp[cn,bR,aE,aA,aag,aah,aS,Y]];rw[aG];refine qn Tryz.func70 Tryz.call70 fun β hf=>?_;have u:=cM 6;exact dw
 ·obtain⟨x,t,rfl,rfl,M⟩:=vV hf rfl;clear hf;have Ro:=M.2;obtain⟨V,J⟩:=t;have h2:=mG (.mk V J) bn;rcases s with _|⟨⟨T,us⟩,r⟩
  ·have D:=aj ([]) [6];rw[show fY ([]) [6]=false from by(simp[bV,bW,aV])<;>assumption]at D;rw[show cn 82 ([.mk V J]) ([])=aP 5 from by simp[cn,bR,aE,aA,aag,aah,aS]];rw[aD cc];refine qn Tryz.func70 Tryz.call70 fun β hf=>?_;exact dw
  by_cases E:T=6
  ·subst E;have D:=aj (.mk 6 us::r) [6];rw[show fY (.mk 6 us::r) [6]=true from by(simp[bV,bW,aV])<;>assumption]at D;cases Y:ga (.mk V J)
   ·rw[Y]at h2;rw[show cn 82 ([.mk V J]) (.mk 6 us::r)=aP 5 from by simp[cn,bR,aE,aA,aag,aah,aS,Y]];rw[aD cc];refine qn Tryz.func70 Tryz.call70 fun β hf=>?_;exact dw
   ·rw[Y]at h2;have A:=bC (r) [.mk 9 [.mk V J]];rw[aG]at A;rw[show cn 82 ([.mk V J]) (.mk 6 us::r)=ee (.mk 9 [.mk V J]::r)from by simp[cn,bR,aE,aA,aag,aah,aS,Y]];rw[aG];refine qn Tryz.func70 Tryz.call70 fun β hf=>?_;have LR:=dB 9 [.mk V J];exact dw
  ·have D:=aj (.mk T us::r) [6];rw[show fY (.mk T us::r) [6]=false from by(simp[bV,bW,aV,E])<;>assumption]at D;rw[show cn 82 ([.mk V J]) (.mk T us::r)=aP 5 from by simp[cn,bR,aE,aA,aag,aah,aS,E]];rw[aD cc];refine qn Tryz.func70 Tryz.call70 fun β hf=>?_;exact dw
 ·obtain⟨rfl,rfl⟩:=cY hf rfl;clear hf;rcases s with _|⟨⟨T,us⟩,r⟩
  ·rw[show cn 83 ([]) ([])=aP 5 from by simp[cn,bR,aE,aA,aag,aah,aS]];rw[aD cc];refine qn Tryz.func70 Tryz.call70 fun β hf=>?_;exact dw
  have h2:=mG (.mk T us) gp;have S:=xx (aq (.mk T us::r)) 0 uf;cases Y:ga (.mk T us)
  ·rw[Y]at h2;rw[show cn 83 ([]) (.mk T us::r)=aP 5 from by simp[cn,bR,aE,aA,aag,aah,aS,Y]];rw[aD cc];refine qn Tryz.func70 Tryz.call70 fun β hf=>?_;exact dw
  ·rw[Y]at h2;rw[show cn 83 ([]) (.mk T us::r)=(([],true),0)from by simp[cn,bR,aE,aA,aag,aah,aS,Y]];rw[I1];refine qn Tryz.func70 Tryz.call70 fun β hf=>?_;exact dw
end Go.Proofs
namespace Go.Proofs
open Go.cq
attribute [local irreducible] AK ai bh bt aZ fC lz ga ju bw cA fq bf jt iC
theorem GV (P:Int) (args:List Nd) (B s:List Ty) (C:84<=P/\P<=92) (hf:bN P args=some B) (G:qx s) (hl:s.length<=9999999990):ag 71 [.int .i64 P,.sl 2 (aq B),.sl 2 (aq s)] (iW (bY P B s)):=by
 have u:P=84\/P=85\/P=86\/P=87\/P=88\/P=89\/P=90\/P=91\/P=92:=by omega
 clear C;rcases u with rfl|rfl|rfl|rfl|rfl|rfl|rfl|rfl|rfl
 ·obtain⟨rfl,rfl⟩:=cY hf rfl;clear hf;rcases s with _|⟨⟨T,us⟩,_|⟨⟨U,vs⟩,q⟩⟩
  ·have D:=aj ([]) [0,4];rw[show fY ([]) [0,4]=false from by(simp[bV,bW,aV])<;>assumption]at D;rw[show bY 84 ([]) ([])=aP 5 from by simp[bY,bR,aE,aA,aag,aah,aS]];rw[aD cc];refine qn Tryz.func71 Tryz.call71 fun β hf=>?_;exact dw
  ·have D:=aj ([.mk T us]) [0,4];rw[show fY ([.mk T us]) [0,4]=false from by(simp[bV,bW,aV])<;>assumption]at D;rw[show bY 84 ([]) ([.mk T us])=aP 5 from by simp[bY,bR,aE,aA,aag,aah,aS]];rw[aD cc];refine qn Tryz.func71 Tryz.call71 fun β hf=>?_;exact dw
  have h2:=kO (.mk T us) gp;by_cases O:U=4
  ·subst O;have D:=aj (.mk T us :: .mk 4 vs::q) [0,4];rw[show fY (.mk T us :: .mk 4 vs::q) [0,4]=true from by(simp[bV,bW,aV])<;>assumption]at D;cases S:fC (.mk T us)
   ·rw[S]at h2;rw[show bY 84 ([]) (.mk T us :: .mk 4 vs::q)=aP 5 from by simp[bY,bR,aE,aA,aag,aah,aS,S]];rw[aD cc];refine qn Tryz.func71 Tryz.call71 fun β hf=>?_;exact dw
   ·rw[S]at h2;have A:=bC (q) [.mk 9 [.mk 15 [.mk T us]]];rw[aG]at A;rw[show bY 84 ([]) (.mk T us :: .mk 4 vs::q)=ee (.mk 9 [.mk 15 [.mk T us]]::q)from by simp[bY,bR,aE,aA,aag,aah,aS,S]];rw[aG];refine qn Tryz.func71 Tryz.call71 fun β hf=>?_;have ug:=dB 15 [.mk T us];have BJ:=dB 9 [.mk 15 [.mk T us]];exact dw
  ·have D:=aj (.mk T us :: .mk U vs::q) [0,4];rw[show fY (.mk T us :: .mk U vs::q) [0,4]=false from by(simp[bV,bW,aV,O])<;>assumption]at D;rw[show bY 84 ([]) (.mk T us :: .mk U vs::q)=aP 5 from by simp[bY,bR,aE,aA,aag,aah,aS,O]];rw[aD cc];refine qn Tryz.func71 Tryz.call71 fun β hf=>?_;exact dw
 ·obtain⟨rfl,rfl⟩:=cY hf rfl;clear hf;rcases s with _|⟨⟨T,us⟩,r⟩
  ·have D:=aj ([]) [15];rw[show fY ([]) [15]=false from by(simp[bV,bW,aV])<;>assumption]at D;rw[show bY 85 ([]) ([])=aP 5 from by simp[bY,bR,aE,aA,aag,aah,aS]];rw[aD cc];refine qn Tryz.func71 Tryz.call71 fun β hf=>?_;exact dw
  by_cases E:T=15
  ·subst E;obtain⟨⟨X,xs⟩,rfl,hx⟩:=eV (G _ (List.mem_cons_self ..)) rfl;have D:=aj (.mk 15 [.mk X xs]::r) [15];rw[show fY (.mk 15 [.mk X xs]::r) [15]=true from by(simp[bV,bW,aV])<;>assumption]at D;have A:=bC (.mk 15 [.mk X xs]::r) [.mk 11 [.mk 7 [],.mk 11 [.mk X xs,.mk 4 []]]];rw[aG]at A;rw[show bY 85 ([]) (.mk 15 [.mk X xs]::r)=ee (.mk 11 [.mk 7 [],.mk 11 [.mk X xs,.mk 4 []]] :: .mk 15 [.mk X xs]::r)from by simp[bY,bR,aE,aA,aag,aah,aS]];rw[aG];refine qn Tryz.func71 Tryz.call71 fun β hf=>?_;have GU:=cM 7;have Jd:=cM 4;have Je:=dB 11 [.mk X xs,.mk 4 []];have LR:=dB 11 [.mk 7 [],.mk 11 [.mk X xs,.mk 4 []]];exact dw
  ·have D:=aj (.mk T us::r) [15];rw[show fY (.mk T us::r) [15]=false from by(simp[bV,bW,aV,E])<;>assumption]at D;rw[show bY 85 ([]) (.mk T us::r)=aP 5 from by simp[bY,bR,aE,aA,aag,aah,aS,E]];rw[aD cc];refine qn Tryz.func71 Tryz.call71 fun β hf=>?_;exact dw
 ·obtain⟨rfl,rfl⟩:=cY hf rfl;clear hf;rcases s with _|⟨⟨T,us⟩,_|⟨⟨U,vs⟩,q⟩⟩
  ·have D:=aj ([]) [15,11];rw[show fY ([]) [15,11]=false from by(simp[bV,bW,aV])<;>assumption]at D;rw[show bY 86 ([]) ([])=aP 5 from by simp[bY,bR,aE,aA,aag,aah,aS]];rw[aD cc];refine qn Tryz.func71 Tryz.call71 fun β hf=>?_;exact dw
  ·have D:=aj ([.mk T us]) [15,11];rw[show fY ([.mk T us]) [15,11]=false from by(simp[bV,bW,aV])<;>assumption]at D;rw[show bY 86 ([]) ([.mk T us])=aP 5 from by simp[bY,bR,aE,aA,aag,aah,aS]];rw[aD cc];refine qn Tryz.func71 Tryz.call71 fun β hf=>?_;exact dw
  by_cases E:T=15/\U=11
  ·obtain⟨rfl,rfl⟩:=E;obtain⟨⟨X,xs⟩,⟨Y,K⟩,rfl,hx,hy⟩:=eL (G (.mk 11 vs) c9) rfl;have D:=aj (.mk 15 us :: .mk 11 [.mk X xs,.mk Y K]::q) [15,11];rw[show fY (.mk 15 us :: .mk 11 [.mk X xs,.mk Y K]::q) [15,11]=true from by(simp[bV,bW,aV])<;>assumption]at D;by_cases hX:X=4
   ·subst hX;by_cases N:Y=4
    ·subst N;have A:=bC (q) [.mk 9 [.mk 11 [.mk 15 us,.mk 15 us]]];rw[aG]at A;rw[show bY 86 ([]) (.mk 15 us :: .mk 11 [.mk 4 xs,.mk 4 K]::q)=ee (.mk 9 [.mk 11 [.mk 15 us,.mk 15 us]]::q)from by simp[bY,bR,aE,aA,aag,aah,aS]];rw[aG];refine qn Tryz.func71 Tryz.call71 fun β hf=>?_;have Rn:=dB 11 [.mk 15 us,.mk 15 us];have UK:=dB 9 [.mk 11 [.mk 15 us,.mk 15 us]];exact dw
    ·have H:(Y==4)=false:=by simpa using N
     rw[show bY 86 ([]) (.mk 15 us :: .mk 11 [.mk 4 xs,.mk Y K]::q)=aP 5 from by simp[bY,bR,aE,aA,aag,aah,aS,N]];rw[aD cc];refine qn Tryz.func71 Tryz.call71 fun β hf=>?_;exact dw
   ·have H:(X==4)=false:=by simpa using hX
    rw[show bY 86 ([]) (.mk 15 us :: .mk 11 [.mk X xs,.mk Y K]::q)=aP 5 from by simp[bY,bR,aE,aA,aag,aah,aS,hX]];rw[aD cc];refine qn Tryz.func71 Tryz.call71 fun β hf=>?_;exact dw
  ·have M:T=15->¬U=11:=fun a b=>E ⟨a,b⟩;have D:=aj (.mk T us :: .mk U vs::q) [15,11];rw[show fY (.mk T us :: .mk U vs::q) [15,11]=false from by(simp[bV,bW,aV,M])<;>assumption]at D;have I:¬(T=15/\U=11/\bR (vs.getD 0 lA)=4/\bR (vs.getD 1 lA)=4):=fun h=>E ⟨h.1,h.2.1⟩;rw[show bY 86 ([]) (.mk T us :: .mk U vs::q)=aP 5 from by unfold bY;rw[if_neg cc,if_neg cc];dsimp only;rw[if_neg cc,if_neg cc,if_pos rfl];exact if_neg I,aD cc];refine qn Tryz.func71 Tryz.call71 fun β hf=>?_;exact dw
 ·obtain⟨rfl,rfl⟩:=cY hf rfl;clear hf;rcases s with _|⟨⟨T,us⟩,r⟩
  ·have D:=aj ([]) [11];rw[show fY ([]) [11]=false from by(simp[bV,bW,aV])<;>assumption]at D;rw[show bY 87 ([]) ([])=aP 5 from by simp[bY,bR,aE,aA,aag,aah,aS]];rw[aD cc];refine qn Tryz.func71 Tryz.call71 fun β hf=>?_;exact dw
  by_cases E:T=11
  ·subst E;obtain⟨⟨X,xs⟩,⟨Y,K⟩,rfl,hx,hy⟩:=eL (G (.mk 11 us) c9) rfl;have D:=aj (.mk 11 [.mk X xs,.mk Y K]::r) [11];rw[show fY (.mk 11 [.mk X xs,.mk Y K]::r) [11]=true from by(simp[bV,bW,aV])<;>assumption]at D;have Ys:=hx.2;have h1:=gF (.mk X xs) (.mk Y K) bn;by_cases hX:X=15
   ·subst hX;cases g1:cP (.mk 15 xs) (.mk Y K)
    ·rw[g1]at h1;rw[show bY 87 ([]) (.mk 11 [.mk 15 xs,.mk Y K]::r)=aP 5 from by simp[bY,bR,aE,aA,aag,aah,aS,g1]];rw[aD cc];refine qn Tryz.func71 Tryz.call71 fun β hf=>?_;exact dw
    ·rw[g1]at h1;have A:=bC (r) [.mk 9 [.mk 15 xs]];rw[aG]at A;rw[show bY 87 ([]) (.mk 11 [.mk 15 xs,.mk Y K]::r)=ee (.mk 9 [.mk 15 xs]::r)from by simp[bY,bR,aE,aA,aag,aah,aS,g1]];rw[aG];refine qn Tryz.func71 Tryz.call71 fun β hf=>?_;have YS:=dB 9 [.mk 15 xs];exact dw
   ·have H:(X==15)=false:=by simpa using hX
    rw[show bY 87 ([]) (.mk 11 [.mk X xs,.mk Y K]::r)=aP 5 from by simp[bY,bR,aE,aA,aag,aah,aS,hX]];rw[aD cc];refine qn Tryz.func71 Tryz.call71 fun β hf=>?_;exact dw
  ·have D:=aj (.mk T us::r) [11];rw[show fY (.mk T us::r) [11]=false from by(simp[bV,bW,aV,E])<;>assumption]at D;rw[show bY 87 ([]) (.mk T us::r)=aP 5 from by simp[bY,bR,aE,aA,aag,aah,aS,E]];rw[aD cc];refine qn Tryz.func71 Tryz.call71 fun β hf=>?_;exact dw
 ·obtain⟨x0,t,rfl,rfl,p⟩:=vV hf rfl;clear hf;have Ro:=p.2;obtain⟨V,J⟩:=t;rcases s with _|⟨⟨T,us⟩,_|⟨⟨U,vs⟩,_|⟨⟨W,Q⟩,q⟩⟩⟩
  ·have D:=aj ([]) [0,5,7];rw[show fY ([]) [0,5,7]=false from by(simp[bV,bW,aV])<;>assumption]at D;rw[show bY 88 ([.mk V J]) ([])=aP 5 from by simp[bY,bR,aE,aA,aag,aah,aS]];rw[aD cc];refine qn Tryz.func71 Tryz.call71 fun β hf=>?_;exact dw
  ·have D:=aj ([.mk T us]) [0,5,7];rw[show fY ([.mk T us]) [0,5,7]=false from by(simp[bV,bW,aV])<;>assumption]at D;rw[show bY 88 ([.mk V J]) ([.mk T us])=aP 5 from by simp[bY,bR,aE,aA,aag,aah,aS]];rw[aD cc];refine qn Tryz.func71 Tryz.call71 fun β hf=>?_;exact dw
  ·have D:=aj ([.mk T us,.mk U vs]) [0,5,7];rw[show fY ([.mk T us,.mk U vs]) [0,5,7]=false from by(simp[bV,bW,aV])<;>assumption]at D;rw[show bY 88 ([.mk V J]) ([.mk T us,.mk U vs])=aP 5 from by simp[bY,bR,aE,aA,aag,aah,aS]];rw[aD cc];refine qn Tryz.func71 Tryz.call71 fun β hf=>?_;exact dw
  have h1:=gF (.mk T us) (.mk V J) gp;have h2:=yE (.mk T us) gp;by_cases O:U=5/\W=7
  ·obtain⟨rfl,rfl⟩:=O;have D:=aj (.mk T us :: .mk 5 vs :: .mk 7 Q::q) [0,5,7];rw[show fY (.mk T us :: .mk 5 vs :: .mk 7 Q::q) [0,5,7]=true from by(simp[bV,bW,aV])<;>assumption]at D;cases g1:cP (.mk T us) (.mk V J)
   ·rw[g1]at h1;rw[show bY 88 ([.mk V J]) (.mk T us :: .mk 5 vs :: .mk 7 Q::q)=aP 5 from by simp[bY,bR,aE,aA,aag,aah,aS,g1]];rw[aD cc];refine qn Tryz.func71 Tryz.call71 fun β hf=>?_;exact dw
   cases S:ju (.mk T us)
   ·rw[g1]at h1;rw[S]at h2;rw[show bY 88 ([.mk V J]) (.mk T us :: .mk 5 vs :: .mk 7 Q::q)=aP 5 from by simp[bY,bR,aE,aA,aag,aah,aS,g1,S]];rw[aD cc];refine qn Tryz.func71 Tryz.call71 fun β hf=>?_;exact dw
   ·rw[g1]at h1;rw[S]at h2;have A:=bC (q) [.mk 8 []];rw[aG]at A;rw[show bY 88 ([.mk V J]) (.mk T us :: .mk 5 vs :: .mk 7 Q::q)=ee (.mk 8 []::q)from by simp[bY,bR,aE,aA,aag,aah,aS,g1,S]];rw[aG];refine qn Tryz.func71 Tryz.call71 fun β hf=>?_;have Wg:=cM 8;exact dw
  ·have M:U=5->¬W=7:=fun a b=>O ⟨a,b⟩;have D:=aj (.mk T us :: .mk U vs :: .mk W Q::q) [0,5,7];rw[show fY (.mk T us :: .mk U vs :: .mk W Q::q) [0,5,7]=false from by(simp[bV,bW,aV,M])<;>assumption]at D;have I:¬(U=5/\W=7/\cP (.mk T us) (.mk V J)=true/\ju (.mk T us)=true):=fun h=>O ⟨h.1,h.2.1⟩;rw[show bY 88 ([.mk V J]) (.mk T us :: .mk U vs :: .mk W Q::q)=aP 5 from by unfold bY;rw[if_neg cc,if_neg cc];dsimp only;rw[if_neg cc,if_neg cc,if_neg cc,if_neg cc,if_pos rfl];exact if_neg I,aD cc];refine qn Tryz.func71 Tryz.call71 fun β hf=>?_;exact dw
 ·obtain⟨rfl,rfl⟩:=cY hf rfl;clear hf;have A:=bC (s) [.mk 7 []];rw[aG]at A;rw[show bY 89 ([]) (s)=ee (.mk 7 []::s)from by simp[bY,bR,aE,aA,aag,aah,aS]];rw[aG];refine qn Tryz.func71 Tryz.call71 fun β hf=>?_;have Wh:=cM 7;exact dw
 ·obtain⟨rfl,rfl⟩:=cY hf rfl;clear hf;have A:=bC (s) [.mk 7 []];rw[aG]at A;rw[show bY 90 ([]) (s)=ee (.mk 7 []::s)from by simp[bY,bR,aE,aA,aag,aah,aS]];rw[aG];refine qn Tryz.func71 Tryz.call71 fun β hf=>?_;have Wi:=cM 7;exact dw
 ·obtain⟨rfl,rfl⟩:=cY hf rfl;clear hf;have A:=bC (s) [.mk 5 []];rw[aG]at A;rw[show bY 91 ([]) (s)=ee (.mk 5 []::s)from by simp[bY,bR,aE,aA,aag,aah,aS]];rw[aG];refine qn Tryz.func71 Tryz.call71 fun β hf=>?_;have YT:=cM 5;exact dw
 ·obtain⟨rfl,rfl⟩:=cY hf rfl;clear hf;have A:=bC (s) [.mk 5 []];rw[aG]at A;rw[show bY 92 ([]) (s)=ee (.mk 5 []::s)from by simp[bY,bR,aE,aA,aag,aah,aS]];rw[aG];refine qn Tryz.func71 Tryz.call71 fun β hf=>?_;have YU:=cM 5;exact dw
end Go.Proofs
