/- The law TopGood: -/
import Derived.Test.YtdnpapgijbhofaaGreatDoorTopE
open Go.Proofs.Tryz
set_option linter.defProp false
set_option linter.unusedVariables false
set_option linter.unusedSimpArgs false
set_option maxHeartbeats 0
set_option maxRecDepth 100000
namespace Go.Proofs
open Go.cw
attribute [local irreducible] AK ah aR bM cX cn bH cN gh dX.cq dX.hD wB wF eR
def VJ(l:dX)(b:lN)(P:oY l)(hb:qF b)(hg:b.bU<=3000):af 19 [.agg (cN l),.agg (cN (gp l b).1),kP b,qD (gp l b).2] (.bool true):=by
 have T:=Y8 P hg hb;have u:=l7 P hb hg;generalize gp l b=x at *;obtain⟨Ll,⟨code,done,gs,au,made⟩⟩:=x;obtain⟨src,cnt,jd,bU,ops⟩:=b;simp only at T u;have zl:=P.h12;have zL:=u.h12;have aj1:=u.rK;refine qn func19 call19 λβ hf=>?_
 repeat' (first|exact wq|refine wz ?_|refine ah.dj hX kn Z Z Z Z Z Z Z (AN ek Z Z) ?_)
 refine AK.dN (α:=Nat) (λi=>i<=12) (λi=>12-i) (λi=>[(17,.c (ag (i:Nat))),(16,.agg (gh Ll)),(4,.ptr 4 0),(5,.ptr 5 0)]) (λ_=>[(4,bH l),(5,bH Ll)]) (λ_=>[]) [4,5] 0
  (aeW _) ce ⟨Z,Z,trivial⟩ trivial p8 (dI Z (b8 _ _) (dI Z (b8 _ _) Z)) Z ?_
 intro i hi J;by_cases H:i<12
 ·have e1:decide ((i:Int)<12)=true:=aaX ai;have M:Nat.blt i 12=true:=by rw[afP];omega
  have G:=ep (l:=l) (i:=i) zl ai ai;have Q:=ep (l:=Ll) (i:=i) zL ai ai;rw[abU]at G Q;have W:=(T i H).1;have E:=P.size _ (abz G);have V:=u.get Q;have U:=u.size _ (abz Q);have S:=J (i+1) ai ai;clear J T;generalize bq l i=a at *;generalize bq Ll i=A at *;have I:A.is=2->af 22 [cU A.store,bA A.keep] (.bool true):=λh=>by have h1:=AG A.store A.keep (by have:=U.1;omega) (by have:=U.2.2;omega);rw[(F0 V h).2.2.2.2.1]at h1;exact h1
  have O:a.is≠0->af 21 [.agg (tV a),.agg (tV A)] (.bool true):=λh=>qN (W h) E;obtain⟨D,bX,qC,⟨pT,pA⟩,⟨sT,sA⟩,cd,⟨k1,k2,k3,k4,k5,k6,k7⟩⟩:=a;obtain⟨Y,Cn,nX,⟨pT',pA'⟩,⟨sT',sA'⟩,cd',⟨q1,q2,q3,q4,q5,q6,q7⟩⟩:=A;obtain⟨r1,Bj⟩:=ir G;obtain⟨r3,N,q⟩:=Lc zL Q;have d1:=Bj 0 _ Z;clear Bj W V;simp only at I O;by_cases C:D≠0
  ·have e2:(D != 0)=true:=(by simpa using C);have ZL:=O C;clear O;by_cases K:Y=2
   ·have B:(Y==2)=true:=(by simpa using K);have KL:=I K;clear I
    repeat' (first|exact wq|refine wz ?_|refine ah.fy hX kn Z Z Z Z Z Z Z Z Z M N (fh Z Z q) ?_|(intro h;rw[h]))
    exact aeq
   have B:(Y==2)=false:=(by simpa using K);clear I
   repeat' (first|exact wq|refine wz ?_|refine ah.fy hX kn Z Z Z Z Z Z Z Z Z M N (fh Z Z q) ?_|(intro h;rw[h]))
   exact aeq
  have e2:(D != 0)=false:=by simpa using C
  clear O;by_cases K:Y=2
  ·have B:(Y==2)=true:=(by simpa using K);have KL:=I K;clear I
   repeat' (first|exact wq|refine wz ?_|refine ah.fy hX kn Z Z Z Z Z Z Z Z Z M N (fh Z Z q) ?_|(intro h;rw[h]))
   exact aeq
  have B:(Y==2)=false:=by simpa using K
  clear I
  repeat' (first|exact wq|refine wz ?_|refine ah.fy hX kn Z Z Z Z Z Z Z Z Z M N (fh Z Z q) ?_|(intro h;rw[h]))
  exact aeq
 obtain rfl:i=12:=by omega
 have e1:decide (((12:Nat):Int)<12)=false:=by decide
 clear J T
 repeat' (first|exact wq|refine wz ?_)
def IP(bs:List lN)(Y:∀b∈bs,qF b):af 6 [.sl 5 (bR bs)] (.bool true):=by
 have hq:=nC VJ bs Y;have T:(Iq 40 mV bs).aS.length=12:=zd 40 oq Y;generalize Iq 40 mV bs=Ll at *;refine qn func6 call6 λβ hf=>?_
 repeat' (first|exact wq|refine wz ?_)
end Go.Proofs
