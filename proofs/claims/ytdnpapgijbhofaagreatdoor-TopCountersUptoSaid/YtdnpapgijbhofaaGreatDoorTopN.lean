/- The law TopCounters: -/
import Derived.Test.YtdnpapgijbhofaaGreatDoorTopE
open Go.IntKind
open Go.Proofs.Tryz
set_option linter.defProp false
set_option linter.unusedVariables false
set_option linter.unusedSimpArgs false
set_option maxHeartbeats 0
set_option maxRecDepth 100000
namespace Go.Proofs
open Go.cw
def Za{Ll:dX}{b:lN}(u:oY Ll)(h1:0<=b.src/\b.src<4)(h2:(bq Ll b.src).cnt=b.cnt):gp Ll b=(Ll,⟨9,0,0,0,[]⟩):=by
 have q:uw Ll b=9:=by unfold uw;rw[if_neg (by rw[u.good];decide),if_neg ai,if_pos (by right;omega)]
 unfold gp;rw[q,if_pos bn]
attribute [local irreducible] AK ah aR bM cX cn bH cN gh dX.cq dX.hD wB wF eR
def Sr(l:dX)(b:lN)(B:oY l)(q:qF b)(G:b.bU<=3000):af 23 [.agg (cN l),.agg (cN (gp l b).1),kP b,qD (gp l b).2] (.bool true):=by
 have I:=Y8 B G q;have u:=l7 B q G;generalize gp l b=x at *;obtain⟨Ll,⟨code,done,gs,au,made⟩⟩:=x;simp only at I u;have hq:=sZ u b G q;have K:=λh1 h2=>Za (Ll:=Ll) (b:=b) u h1 h2;have U:=l7 u q G;have W:=q8 u;generalize gp Ll b=y at *;obtain⟨L2,⟨bK,agj,gs2,abx,agk⟩⟩:=y;obtain⟨src,S,jd,bU,ops⟩:=b;simp only at I u K U hq;have zl:=B.h12;have zL:=u.h12;have zL2:=U.h12;refine qn func23 call23 λβ hf=>?_
 repeat' (first|exact wq|refine wz ?_)
 refine AK.dN (α:=Nat) (λi=>i<=12) (λi=>12-i) (λi=>[(13,.c (ag (i:Nat))),(4,.ptr 4 0),(5,.ptr 5 0),(6,.ptr 6 0)]) (λ_=>[(4,bH l),(5,bH Ll),(6,[.c (ag src),.c (ag S),.c (ag jd),.c (ag bU),.c (.sl 23 (fD ops))])]) (λ_=>[]) [4,5,6] 0
  (aeW _) ce ⟨Z,Z,Z,trivial⟩ trivial Z (dI Z (b8 _ _) (dI Z (b8 _ _) Z)) Z ?_
 intro i hi ih;by_cases hi2:i<12
 ·have e1:decide ((i:Int)<12)=true:=aaX ai;have M:Nat.blt i 12=true:=by rw[afP];omega
  have ha:=ep (l:=l) (i:=i) zl ai ai;have T:=ep (l:=Ll) (i:=i) zL ai ai;rw[abU]at ha T;have Q:=(I i hi2).2;have P:=ih (i+1) ai ai;clear ih I K hq W;generalize bq l i=a at *;generalize bq Ll i=A at *;obtain⟨is,bX,O,⟨pT,pA⟩,⟨sT,sA⟩,cd,⟨k1,k2,k3,k4,k5,k6,k7⟩⟩:=a;obtain⟨Qd,Cn,Y,⟨pT',pA'⟩,⟨sT',sA'⟩,cd',⟨q1,q2,q3,q4,q5,q6,q7⟩⟩:=A;obtain⟨r1,Bj⟩:=ir ha;obtain⟨r2,N⟩:=ir T;have d1:=Bj 2 _ Z;have d2:=N 2 _ Z;clear Bj N;simp only at Q;rcases Q with rfl|⟨h1,h2,h3⟩
  ·have J:i64.wrap (Y-Y)=0:=(by rw[Int.sub_self];rfl);have e2:(i64.wrap (Y-Y) != 0)=false:=by rw[J];rfl
   repeat' (first|exact wq|refine wz ?_|(intro h;rw[h]))
   exact aev
  subst h2 h3;have J:i64.wrap (Y-O)=1:=by rw[h1,show O+1-O=1 by omega];rfl
  have e2:(i64.wrap (Y-O) != 0)=true:=by rw[J];rfl
  have E:(i64.wrap (Y-O) != 1)=false:=by rw[J];rfl
  have C:((i:Int) != (i:Int))=false:=by simp
  have n4:(bif false then true else((i:Int) != (i:Int)))=false:=C;have e5:(Y != Y)=false:=by simp
  have n5:(bif false then true else(Y != Y))=false:=e5;have n6:(bif true then false else false)=false:=rfl;clear J h1
  repeat' (first|exact wq|refine wz ?_|(intro h;rw[h]))
  exact aev
 obtain rfl:i=12:=by omega
 have e1:decide (((12:Nat):Int)<12)=false:=by decide
 clear ih I;obtain⟨s,hs,H⟩:∃s:Nat,s<12/\(if(if 11<src then(11:Int)else src)>0 then(if 11<src then(11:Int)else src)else 0)=s:=by
  refine⟨(if(if 11<src then(11:Int)else src)>0 then(if 11<src then(11:Int)else src)else 0).toNat,?_,?_⟩<;>repeat' split
  all_goals omega
 have M:Nat.blt s 12=true:=by rw[afP];omega
 have T:=ep (l:=Ll) (i:=s) zL ai ai;rw[abU]at T
 have V:(0<=src/\src<4)->(bq Ll s).cnt=S->((L2,P9.mk bK agj gs2 abx agk):dX×P9)=(Ll,⟨9,0,0,0,[]⟩):=λh1 h2=>K h1 (by
  rw[show src=(s:Int)by rw[<- H,if_neg (show ¬11<src by omega)];split<;>omega];exact h2)
 clear K;generalize bq Ll s=A at *;obtain⟨Qd,Cn,Y,⟨pT',pA'⟩,⟨sT',sA'⟩,cd',⟨q1,q2,q3,q4,q5,q6,q7⟩⟩:=A;obtain⟨r2,N⟩:=ir T;have d2:=N 2 _ Z;clear N;simp only at V;have D:∀{z:Int},z=s->asNat (.c (.int .i64 z))=some s:=by intro z hz;subst hz;rfl
 by_cases c1:Y=S;rotate_left
 ·have e2:(Y != S)=true:=by simpa using c1
  clear V
  repeat' (first|exact wq|refine wz ?_|refine ah.nE hX kn Z Z Z Z Z Z Z Z (D H) M ?_|(intro h;rw[h]))
 have e2:(Y != S)=false:=by simpa using c1
 by_cases c2:src<0
 ·have E:decide (src<0)=true:=aaX c2;have n3:(bif false then true else decide (src<0))=true:=E;clear V
  repeat' (first|exact wq|refine wz ?_|refine ah.nE hX kn Z Z Z Z Z Z Z Z (D H) M ?_|(intro h;rw[h]))
 have E:decide (src<0)=false:=aaY c2;have n3:(bif false then true else decide (src<0))=false:=E;by_cases c3:4<=src
 ·have C:decide (src>=4)=true:=aaX c3;have n4:(bif false then true else decide (src>=4))=true:=C;clear V
  repeat' (first|exact wq|refine wz ?_|refine ah.nE hX kn Z Z Z Z Z Z Z Z (D H) M ?_|(intro h;rw[h]))
 have C:decide (src>=4)=false:=aaY c3;have n4:(bif false then true else decide (src>=4))=false:=C;have h2:=V ⟨ai,ai⟩ c1;clear V;simp only[ahr,P9.mk.injEq]at h2;obtain⟨h3,h4,h5,h6,h7,h8⟩:=h2;subst h3 h4 h5 h6 h7 h8
 repeat' (first|exact wq|refine wz ?_|refine ah.nE hX kn Z Z Z Z Z Z Z Z (D H) M ?_|refine ah.xS kn Z Z Z (gK Z (gK Z Z)) W ?_|(intro h;rw[h]))
def B6(bs:List lN)(Y:∀b∈bs,qF b):af 7 [.sl 5 (bR bs)] (.bool true):=by
 have hq:=nC Sr bs Y;have T:(Iq 40 mV bs).aS.length=12:=zd 40 oq Y;generalize Iq 40 mV bs=Ll at *;refine qn func7 call7 λβ hf=>?_
 repeat' (first|exact wq|refine wz ?_)
end Go.Proofs
