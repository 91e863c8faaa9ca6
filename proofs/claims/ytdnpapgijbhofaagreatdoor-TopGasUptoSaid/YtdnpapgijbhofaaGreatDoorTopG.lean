/- The law TopGas: -/
import Derived.Test.YtdnpapgijbhofaaGreatDoorChn11
open Go.Proofs.Tryz
set_option linter.defProp false
set_option linter.unusedVariables false
set_option linter.unusedSimpArgs false
set_option maxHeartbeats 0
set_option maxRecDepth 100000
namespace Go.Proofs
open Go.cw
attribute [local irreducible] AK ah aR bM cX cn bH cN gh dX.cq dX.hD wB wF eR
def Y9(l:dX)(b:lN)(I:oY l)(U:qF b)(G:b.bU<=3000):af 16 [.agg (cN l),.agg (cN (gp l b).1),kP b,qD (gp l b).2] (.bool true):=by
 obtain⟨h1,⟨h2,K⟩,h4,_⟩:=S3 I G U;generalize gp l b=x at *;obtain⟨Ll,⟨code,done,C,Q,N⟩⟩:=x;obtain⟨src,S,jd,Y,ops⟩:=b;simp only at h1 h2 K h4;have E:decide (C>=0)=true:=aaX h2;have W:decide (C<=if 0>Y then 0 else Y)=true:=aaX (by split<;>omega);have n3:(bif true then decide (C<=if 0>Y then 0 else Y)else false)=true:=W;have M:(code != 14)=true:=by simpa using h4
 refine qn func16 call16 λβ hf=>?_
 repeat' (first|exact wq|refine wz ?_|(intro h;rw[h]))
 exact uQ hf Z Z (aeM CV.bool M)
def Lz(bs:List lN)(Y:∀b∈bs,qF b):af 3 [.sl 5 (bR bs)] (.bool true):=by
 have hq:=nC Y9 bs Y;have T:(Iq 40 mV bs).aS.length=12:=zd 40 oq Y;generalize Iq 40 mV bs=Ll at *;refine qn func3 call3 λβ hf=>?_
 repeat' (first|exact wq|refine wz ?_|(intro h;rw[h]))
end Go.Proofs
