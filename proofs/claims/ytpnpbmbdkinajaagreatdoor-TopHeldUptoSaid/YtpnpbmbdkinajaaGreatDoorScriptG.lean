/- A part of the proof. -/
import Derived.Test.YtpnpbmbdkinajaaGreatDoorChkCG
set_option linter.all false
set_option maxHeartbeats 0
set_option maxRecDepth 100000
open Go.IntKind Go.Proofs.Tryz
namespace Go.Proofs
open Go.cE
attribute [local irreducible] AK ag aZ bS de aM bA ey bU gf jR dH fE eo oJ fZ gk
def CL(p s:Ty)(n:Nd)(D:bh p+bh s<=8589934588)(C:bE n<=8589934593):af 28 [ct p,ct s,aV n] (.int .i64 (iY p s n)):=by
 have F:=mH p ai;have z:=mH s ai;have B:=sB p ai;have Y:=sB s ai;have W:=xK n [.mk 11 [p,s]] C (by simp only[bf,bh];omega);have M:=dN 11 [p,s];have U:=cY 8;have H:=dN 10 [.mk 8 []];have T:=dN 11 [.mk 10 [.mk 8 []],s];have N := @D3 n [.mk 11 [p,s]];have Q:=λ(t:Γ)(A:um t)(u:t.length<=20000000000)=>yM t [.mk 11 [.mk 10 [.mk 8 []],s]] A u;unfold iY;generalize jR n [.mk 11 [p,s]]=r at W N;obtain⟨⟨t,f⟩,e⟩:=r;simp only at N ⊢;obtain⟨P,J⟩:=p;obtain⟨S,O⟩:=s;obtain⟨q,m,j,d,k5⟩:=n;cases x:bA (.mk P J)with
 |false =>
  rw[x]at F;rw[if_pos UK];clear z B Y W M U H T Q;refine qn func28 call28 λy hf=>?_
  repeat' (first|refine ju ?_|refine zc ?_ ?_|(intro h;first|(cases h;done)|rw[h]|skip)|refine uC Z F ?_)
  all_goals exact Wk.refl _
 |true =>
 rw[x]at F;cases I:bA (.mk S O)with
 |false =>
  rw[I]at z;rw[if_pos UK];clear B Y W M U H T Q;refine qn func28 call28 λy hf=>?_
  repeat' (first|refine ju ?_|refine zc ?_ ?_|(intro h;first|(cases h;done)|rw[h]|skip)|refine uC Z F ?_|refine uC Z z ?_)
  all_goals exact Wk.refl _
 |true =>
 rw[I]at z;cases G:gk (.mk P J)with
 |false =>
  rw[G]at B;rw[if_pos cS];clear Y W M U H T Q;refine qn func28 call28 λy hf=>?_
  repeat' (first|refine ju ?_|refine zc ?_ ?_|(intro h;first|(cases h;done)|rw[h]|skip)|refine uC Z F ?_|refine uC Z z ?_|refine uC Z B ?_)
  all_goals exact Wk.refl _
 |true =>
 rw[G]at B;cases E:gk (.mk S O)with
 |false =>
  rw[E]at Y;rw[if_pos cS];clear W M U H T Q;refine qn func28 call28 λy hf=>?_
  repeat' (first|refine ju ?_|refine zc ?_ ?_|(intro h;first|(cases h;done)|rw[h]|skip)|refine uC Z F ?_|refine uC Z z ?_|refine uC Z B ?_|refine uC Z Y ?_)
  all_goals exact Wk.refl _
 |true =>
 rw[E]at Y;rw[if_neg cS];by_cases K:e=0;rotate_left
 ·rw[if_pos K];have e1:(e != 0):=by simpa using K
  clear U H T Q;refine qn func28 call28 λy hf=>?_
  repeat' (first|refine ju ?_|refine zc ?_ ?_|(intro h;first|(cases h;done)|rw[h]|skip)|refine uC Z F ?_|refine uC Z z ?_|refine uC Z B ?_|refine uC Z Y ?_|refine uC Z M ?_|refine uC Z W ?_)
  all_goals exact Wk.refl _
 subst K;rw[if_neg cS];have V:=Q t (vX (N Z).1) (by have:=(N Z).2.1;omega);clear Q;cases f with
 |true =>
  rw[if_neg cS];refine qn func28 call28 λy hf=>?_
  repeat' (first|refine ju ?_|refine zc ?_ ?_|(intro h;first|(cases h;done)|rw[h]|skip)|refine uC Z F ?_|refine uC Z z ?_|refine uC Z B ?_|refine uC Z Y ?_|refine uC Z M ?_|refine uC Z W ?_)
  all_goals exact Wk.refl _
 |false =>
  cases o:gS t [.mk 11 [.mk 10 [.mk 8 []],.mk S O]]with
  |false =>
   rw[o]at V;rw[if_pos cS];refine qn func28 call28 λy hf=>?_
   repeat' (first|refine ju ?_|refine zc ?_ ?_|(intro h;first|(cases h;done)|rw[h]|skip)|refine uC Z F ?_|refine uC Z z ?_|refine uC Z B ?_|refine uC Z Y ?_|refine uC Z M ?_|refine uC Z W ?_|refine uC Z U ?_|refine uC Z H ?_|refine uC Z T ?_|refine uC Z V ?_)
   all_goals exact Wk.refl _
  |true =>
   rw[o]at V;rw[if_neg cS];refine qn func28 call28 λy hf=>?_
   repeat' (first|refine ju ?_|refine zc ?_ ?_|(intro h;first|(cases h;done)|rw[h]|skip)|refine uC Z F ?_|refine uC Z z ?_|refine uC Z B ?_|refine uC Z Y ?_|refine uC Z M ?_|refine uC Z W ?_|refine uC Z U ?_|refine uC Z H ?_|refine uC Z T ?_|refine uC Z V ?_)
   all_goals exact Wk.refl _
end Go.Proofs
namespace Go.cE
def Ho(j:Nat)(a:Acc):Bool:=decide (a.cK<0\/a.cK>4000000)||decide (a.cnt<0\/a.cnt>1152921504606846976)||((a.is==1) != decide ((j:Int)<4))
def gIn(a:Acc):Bool :=
 if a.is=1 then LS a
 else if a.is=0 then(LS a&&decide (a.cK=0)&&decide (a.cnt=0))
 else if a.is=2 then(decide (a.cnt=0)&&decide (iY a.param a.store (.mk 3 0 0 [] a.code)=0)&&fK a.store a.keep&&decide (iG a.keep<=200))
 else false
def vv(j:Nat)(a:Acc):Bool := !Ho j a&&gIn a
def gq:Nat->L Acc->Bool
 |_,[]=>true
 |j,a::l=>vv j a&&gq (j+1) l
def tg(l:eF):Bool:=decide (0<=l.fu/\l.fu<=4000000)&&gq 0 l.aI&&decide (Ke l=4000000)
def aaX{l:eF}{Y:Operand->Option AV}{x:Operand}(h:Y x=some (.agg (cq l))):iC Y [x]=some [.agg (di l)]:=by have V:=D0 l;simp only[iC,h,V]
def adI(j:Nat):gq j []:=rfl
def adJ(j:Nat)(a:Acc)(l:L Acc):gq j (a::l)=(vv j a&&gq (j+1) l):=rfl
def vZ:∀(l:L Acc)(j:Nat),gq j l->∀a∈l,0<=a.cK/\a.cK<=4000000
 |a::l,j,h,x,O=>by
  simp only[gq,aaI]at h;rcases List.mem_cons.1 O with rfl|O
  have Y:=h.1;simp only[vv,Ho,aaI,akX,aiw,ajA]at Y;have:=Y.1.1.1;omega;exact vZ l (j+1) h.2 x O
end Go.cE
namespace Go.Proofs
open Go.cE
attribute [local irreducible] AK ag aZ bS de cq di gL eF.cF oF lz LS iY fK iG Ke
set_option maxRecDepth 100000 in
def WN(l:eF)(h12:l.aI.length=12)(hs:∀a∈l.aI,Aw a<=8589934586):af 22 [.agg (di l)] (.bool (tg l)):=by
 have dF:=y8 h12;by_cases f1:l.fu<0
 ·have e1:(bif decide (l.fu<0)then true else decide (l.fu>4000000))=true:=by rw[ace f1];rfl
  have e2:=ace f1;have U:tg l=false:=by unfold tg;rw[acf ai];rfl
  rw[U];refine qn func22 call22 λβ hf=>?_
  repeat' (first|refine ju ?_|refine zc ?_ ?_|(intro h;first|(cases h;done)|rw[h]|skip)|refine AK.skip ?_|refine AK.seq ?_|refine AK.block ?_|refine ag.box kn Z Z Z Z (iw _) Z ?_|refine ag.dy hX kn Z Z Z Z Z Z dF Z ?_)
  all_goals exact Wk.refl _
 have e2:=acf f1;by_cases f2:l.fu>4000000
 ·have e1:(bif decide (l.fu<0)then true else decide (l.fu>4000000))=true:=by rw[acf f1,ace f2];rfl
  have e4:(bif false then true else decide (l.fu>4000000))=true:=by rw[ace f2];rfl
  have U:tg l=false:=by unfold tg;rw[acf ai];rfl
  rw[U];refine qn func22 call22 λβ hf=>?_
  repeat' (first|refine ju ?_|refine zc ?_ ?_|(intro h;first|(cases h;done)|rw[h]|skip)|refine AK.skip ?_|refine AK.seq ?_|refine AK.block ?_|refine ag.box kn Z Z Z Z (iw _) Z ?_|refine ag.dy hX kn Z Z Z Z Z Z dF Z ?_)
  all_goals exact Wk.refl _
 have e3:=acf f2;have e4:(bif false then true else decide (l.fu>4000000))=false:=by rw[e3];rfl
 have e1:(bif decide (l.fu<0)then true else decide (l.fu>4000000))=false:=by rw[acf f1,acf f2];rfl
 have hG:tg l=(gq 0 l.aI&&decide (Ke l=4000000)):=by unfold tg;rw[ace ai,aiM]
 rw[hG];clear hG;refine qn func22 call22 λβ hf=>?_
 repeat' (first|refine ju ?_|refine zc ?_ ?_|(intro h;first|(cases h;done)|rw[h]|skip)|refine AK.skip ?_|refine AK.seq ?_|refine AK.block ?_|refine ag.box kn Z Z Z Z (iw _) Z ?_|refine ag.dy hX kn Z Z Z Z Z Z dF Z ?_|refine ag.dy hX kn Z Z Z Z Z Z Z (ud h12 Z Z) ?_)
 refine AK.dg (α:=Nat) (λj=>j<=12/\gq 0 l.aI=gq j (l.aI.drop j)) (λj=>12-j)
  (λj=>[(15,Υ j),(14,.agg (gL l)),(1,.ptr 1 0)]) (λ_=>[(1,cq l)]) (λ_=>[]) [1] 0
  ⟨ai,Z⟩ ce ⟨Z,trivial⟩ trivial By aew Z ?_
 rintro j ⟨hj,Y⟩ ih;by_cases J:j<12;rotate_left
 ·have c1:decide ((j:Int)<12)=false:=acf ai;have hall:gq 0 l.aI:=by rw[Y,aiJ ai,adI]
  have YM:=XT l h12 ⟨ai,ai⟩ (vZ _ _ hall);rw[hall,aiM];clear ih
  repeat' (first|refine ju ?_|refine zc ?_ ?_|(intro h;first|(cases h;done)|rw[h]|skip)|refine AK.exit Z ?_|refine AK.skip ?_|refine AK.seq ?_|refine ag.dy hX kn Z Z Z Z Z Z Z (fq ew Z Z) ?_|refine ag.KU kn Z Z Z (aaX Z) YM ?_)
  all_goals exact Wk.of_eq (ahm CV.bool (Bool.beq_eq_decide_eq _ _))
 obtain⟨a,ha⟩:∃a,l.aI[j]?=some a:=⟨l.aI[j]' ai,cS⟩;obtain⟨r,d1,d2⟩:=xL h12 ha;have ω:=hs a (acm ha);have N:Nat.blt j 12:=by rw[ajd];exact J
 have c1:decide ((j:Int)<12):=ace ai;rw[cT ha,adJ]at Y;have O:=ih (j+1);clear ih;obtain⟨is,cK,cnt,⟨y,x⟩,⟨sT,D⟩,code,⟨k,n,m,s,P,Q,M⟩⟩:=a;simp only[Aw,bh]at ω;have I:=UN ⟨is,cK,cnt,.mk y x,.mk sT D,code,.mk k n m s P Q M⟩ (by show aG (.mk k n m s P Q M)<=_;omega) (by simp only[Aw,bh];omega);have C:=CL (.mk y x) (.mk sT D) (.mk 3 0 0 [] code) acP afu;have K:=Ib (.mk sT D) (.mk k n m s P Q M) acP ai;have F:=xG (.mk k n m s P Q M) ai;unfold vv Ho gIn at Y;dsimp only at Y;generalize LS ⟨is,cK,cnt,.mk y x,.mk sT D,code,.mk k n m s P Q M⟩=B at I Y;generalize iY (.mk y x) (.mk sT D) (.mk 3 0 0 [] code)=S at C Y;generalize fK (.mk sT D) (.mk k n m s P Q M)=T at K Y;generalize iG (.mk k n m s P Q M)=V at F Y;by_cases q1:cK<0
 ·have u:=ace q1;have k1:(bif decide (cK<0)then true else decide (cK>4000000))=true:=by rw[u];rfl
  have U:gq 0 l.aI=false:=by rw[Y];rw[ace (show cK<0\/cK>4000000 by omega)];rfl
  rw[U,ahT];clear O Y
  repeat' (first|refine ju ?_|refine zc ?_ ?_|(intro h;first|(cases h;done)|rw[h]|skip)|refine ag.eW hX kn Z Z Z Z Z Z Z Z Z N d1 (eJ Z Z d2) ?_)
  all_goals exact Wk.refl _
 have u:=acf q1;by_cases q2:cK>4000000
 ·have A:=ace q2;have k1:(bif decide (cK<0)then true else decide (cK>4000000))=true:=by rw[u,A];rfl
  have k2:(bif false then true else decide (cK>4000000))=true:=by rw[A];rfl
  have U:gq 0 l.aI=false:=by rw[Y];rw[ace (show cK<0\/cK>4000000 by omega)];rfl
  rw[U,ahT];clear O Y
  repeat' (first|refine ju ?_|refine zc ?_ ?_|(intro h;first|(cases h;done)|rw[h]|skip)|refine ag.eW hX kn Z Z Z Z Z Z Z Z Z N d1 (eJ Z Z d2) ?_)
  all_goals exact Wk.refl _
 have A:=acf q2;have k1:(bif decide (cK<0)then true else decide (cK>4000000))=false:=by rw[u,A];rfl
 have k2:(bif false then true else decide (cK>4000000))=false:=by rw[A];rfl
 rw[acf (show ¬(cK<0\/cK>4000000)by omega),ajV]at Y;by_cases q3:cnt<0
 ·have u3:=ace q3;have k3:(bif false then true else decide (cnt<0))=true:=by rw[u3];rfl
  have U:gq 0 l.aI=false:=by rw[Y];rw[ace (show cnt<0\/cnt>1152921504606846976 by omega)];rfl
  rw[U,ahT];clear O Y
  repeat' (first|refine ju ?_|refine zc ?_ ?_|(intro h;first|(cases h;done)|rw[h]|skip)|refine ag.eW hX kn Z Z Z Z Z Z Z Z Z N d1 (eJ Z Z d2) ?_)
  all_goals exact Wk.refl _
 have u3:=acf q3;have k3:(bif false then true else decide (cnt<0))=false:=by rw[u3];rfl
 by_cases q4:cnt>1152921504606846976
 ·have u4:=ace q4;have k4:(bif false then true else decide (cnt>1152921504606846976))=true:=by rw[u4];rfl
  have U:gq 0 l.aI=false:=by rw[Y];rw[ace (show cnt<0\/cnt>1152921504606846976 by omega)];rfl
  rw[U,ahT];clear O Y
  repeat' (first|refine ju ?_|refine zc ?_ ?_|(intro h;first|(cases h;done)|rw[h]|skip)|refine ag.eW hX kn Z Z Z Z Z Z Z Z Z N d1 (eJ Z Z d2) ?_)
  all_goals exact Wk.refl _
 have u4:=acf q4;have k4:(bif false then true else decide (cnt>1152921504606846976))=false:=by rw[u4];rfl
 rw[acf (show ¬(cnt<0\/cnt>1152921504606846976)by omega),ajV]at Y;cases t:(!((is==1)==decide ((j:Int)<4)))with
 |true =>
  have k5:(bif false then true else(!((is==1)==decide ((j:Int)<4))))=true:=by rw[t];rfl
  have U:gq 0 l.aI=false:=by rw[Y];rw[show((is==1) != decide ((j:Int)<4)) from t];rfl
  rw[U,ahT];clear O Y
  repeat' (first|refine ju ?_|refine zc ?_ ?_|(intro h;first|(cases h;done)|rw[h]|skip)|refine ag.eW hX kn Z Z Z Z Z Z Z Z Z N d1 (eJ Z Z d2) ?_)
  all_goals exact Wk.refl _
 |false =>
 have k5:(bif false then true else(!((is==1)==decide ((j:Int)<4))))=false:=by rw[t];rfl
 rw[show((is==1) != decide ((j:Int)<4))=false from t]at Y;by_cases o:is=1
 ·have v1:(is==1):=by simpa using o
  rw[if_pos o]at Y;cases B with
  |false =>
   have U:gq 0 l.aI=false:=(by rw[Y];rfl);rw[U,ahT];clear O Y
   repeat' (first|refine ju ?_|refine zc ?_ ?_|(intro h;first|(cases h;done)|rw[h]|skip)|refine ag.eW hX kn Z Z Z Z Z Z Z Z Z N d1 (eJ Z Z d2) ?_|refine uC Z I ?_)
   all_goals exact Wk.refl _
  |true =>
   have U:gq 0 l.aI=gq (j+1) (l.aI.drop (j+1)):=(by rw[Y];rfl);have ih2:=O ⟨J,U⟩ ai;clear O Y
   repeat' (first|refine ju ?_|refine zc ?_ ?_|(intro h;first|(cases h;done)|rw[h]|skip)|refine ag.eW hX kn Z Z Z Z Z Z Z Z Z N d1 (eJ Z Z d2) ?_|refine uC Z I ?_)
   exact agH
 have v1:(is==1)=false:=by simpa using o
 rw[if_neg o]at Y;by_cases f:is=0
 ·have v0:(is==0):=by simpa using f
  rw[if_pos f]at Y;cases B with
  |false =>
   have U:gq 0 l.aI=false:=(by rw[Y];rfl);rw[U,ahT];clear O Y
   repeat' (first|refine ju ?_|refine zc ?_ ?_|(intro h;first|(cases h;done)|rw[h]|skip)|refine ag.eW hX kn Z Z Z Z Z Z Z Z Z N d1 (eJ Z Z d2) ?_|refine uC Z I ?_)
   all_goals exact Wk.refl _
  |true =>
   by_cases w1:cK≠0
   ·have x1:(cK != 0):=(by simpa using w1);have y1:(bif false then true else(cK != 0))=true:=(by rw[x1];rfl);have U:gq 0 l.aI=false:=(by rw[Y];rw[acf w1];rfl);rw[U,ahT];clear O Y
    repeat' (first|refine ju ?_|refine zc ?_ ?_|(intro h;first|(cases h;done)|rw[h]|skip)|refine ag.eW hX kn Z Z Z Z Z Z Z Z Z N d1 (eJ Z Z d2) ?_|refine uC Z I ?_)
    all_goals exact Wk.refl _
   have x1:(cK != 0)=false:=(by simpa using w1);have y1:(bif false then true else(cK != 0))=false:=(by rw[x1];rfl);rw[ace (show cK=0 by omega)]at Y;by_cases E:cnt≠0
   ·have z:(cnt != 0):=(by simpa using E);have y2:(bif false then true else(cnt != 0))=true:=(by rw[z];rfl);have U:gq 0 l.aI=false:=(by rw[Y];rw[acf E];rfl);rw[U,ahT];clear O Y
    repeat' (first|refine ju ?_|refine zc ?_ ?_|(intro h;first|(cases h;done)|rw[h]|skip)|refine ag.eW hX kn Z Z Z Z Z Z Z Z Z N d1 (eJ Z Z d2) ?_|refine uC Z I ?_)
    all_goals exact Wk.refl _
   have z:(cnt != 0)=false:=(by simpa using E);have y2:(bif false then true else(cnt != 0))=false:=(by rw[z];rfl);rw[ace (show cnt=0 by omega)]at Y;have U:gq 0 l.aI=gq (j+1) (l.aI.drop (j+1)):=(by rw[Y];rfl);have ih2:=O ⟨J,U⟩ ai;clear O Y
   repeat' (first|refine ju ?_|refine zc ?_ ?_|(intro h;first|(cases h;done)|rw[h]|skip)|refine ag.eW hX kn Z Z Z Z Z Z Z Z Z N d1 (eJ Z Z d2) ?_|refine uC Z I ?_)
   exact agH
 have v0:(is==0)=false:=by simpa using f
 rw[if_neg f]at Y;by_cases d:is=2;rotate_left
 ·have v2:(is==2)=false:=by simpa using d
  rw[if_neg d]at Y;have U:gq 0 l.aI=false:=by rw[Y];rfl
  rw[U,ahT];clear O Y
  repeat' (first|refine ju ?_|refine zc ?_ ?_|(intro h;first|(cases h;done)|rw[h]|skip)|refine ag.eW hX kn Z Z Z Z Z Z Z Z Z N d1 (eJ Z Z d2) ?_)
  all_goals exact Wk.refl _
 have v2:(is==2):=by simpa using d
 rw[if_pos d]at Y;by_cases E:cnt≠0
 ·have z:(cnt != 0):=by simpa using E
  have U:gq 0 l.aI=false:=by rw[Y];rw[acf E];rfl
  rw[U,ahT];clear O Y
  repeat' (first|refine ju ?_|refine zc ?_ ?_|(intro h;first|(cases h;done)|rw[h]|skip)|refine ag.eW hX kn Z Z Z Z Z Z Z Z Z N d1 (eJ Z Z d2) ?_)
  all_goals exact Wk.refl _
 have z:(cnt != 0)=false:=by simpa using E
 rw[ace (show cnt=0 by omega)]at Y;by_cases w3:S≠0
 ·have x3:(S != 0):=by simpa using w3
  have y3:(bif false then true else(S != 0))=true:=by rw[x3];rfl
  have U:gq 0 l.aI=false:=by rw[Y];rw[acf w3];rfl
  rw[U,ahT];clear O Y
  repeat' (first|refine ju ?_|refine zc ?_ ?_|(intro h;first|(cases h;done)|rw[h]|skip)|refine ag.eW hX kn Z Z Z Z Z Z Z Z Z N d1 (eJ Z Z d2) ?_|refine uC Z C ?_)
  all_goals exact Wk.refl _
 have x3:(S != 0)=false:=by simpa using w3
 have y3:(bif false then true else(S != 0))=false:=by rw[x3];rfl
 rw[ace (show S=0 by omega)]at Y;cases T with
 |false =>
  have U:gq 0 l.aI=false:=by rw[Y];rfl
  rw[U,ahT];clear O Y
  repeat' (first|refine ju ?_|refine zc ?_ ?_|(intro h;first|(cases h;done)|rw[h]|skip)|refine ag.eW hX kn Z Z Z Z Z Z Z Z Z N d1 (eJ Z Z d2) ?_|refine uC Z C ?_|refine uC Z K ?_)
  all_goals exact Wk.refl _
 |true =>
 by_cases w4:(V:Int)>200
 ·have x4:decide ((V:Int)>200):=ace w4;have y4:(bif false then true else decide ((V:Int)>200))=true:=by rw[x4];rfl
  have U:gq 0 l.aI=false:=by rw[Y];rw[acf (show ¬V<=200 by omega)];rfl
  rw[U,ahT];clear O Y
  repeat' (first|refine ju ?_|refine zc ?_ ?_|(intro h;first|(cases h;done)|rw[h]|skip)|refine ag.eW hX kn Z Z Z Z Z Z Z Z Z N d1 (eJ Z Z d2) ?_|refine uC Z C ?_|refine uC Z K ?_|refine uC Z F ?_)
  all_goals exact Wk.refl _
 have x4:decide ((V:Int)>200)=false:=acf w4;have y4:(bif false then true else decide ((V:Int)>200))=false:=by rw[x4];rfl
 rw[ace (show V<=200 by omega)]at Y;have U:gq 0 l.aI=gq (j+1) (l.aI.drop (j+1)):=by rw[Y];rfl
 have ih2:=O ⟨J,U⟩ ai;clear O Y
 repeat' (first|refine ju ?_|refine zc ?_ ?_|(intro h;first|(cases h;done)|rw[h]|skip)|refine ag.eW hX kn Z Z Z Z Z Z Z Z Z N d1 (eJ Z Z d2) ?_|refine uC Z C ?_|refine uC Z K ?_|refine uC Z F ?_)
 exact agH
end Go.Proofs
namespace Go.cE
def Mw(b:Int):Acc:=⟨1,b,0,kg,kg,[],jl⟩
def vz:eF:=⟨[Mw 1000000,Mw 1000000,Mw 1000000,Mw 1000000,s9,s9,s9,s9,s9,s9,s9,s9],0⟩
def ao6:eF:=⟨[Mw 999995,Mw 1000005,Mw 1000000,Mw 1000000,s9,s9,s9,s9,s9,s9,s9,s9],0⟩
def kT{l:eF}{Y:Operand->Option AV}{x:Operand}{r:L Operand}{U:Ψ}(h:Y x=some (.agg (cq l)))(V:iC Y r=some U):iC Y (x::r)=some (.agg (di l)::U):=by have T:=D0 l;simp only[iC,h,T,V]
end Go.cE
namespace Go.Proofs
open Go.cE
attribute [local irreducible] AK ag aZ bS de tg
set_option maxRecDepth 100000 in
def D2:af 15 [] (.agg (di vz)):=by
 refine qn func15 call15 λY hf=>?_
 repeat' (first|refine ju ?_|refine zc ?_ ?_|(intro h;first|(cases h;done)|rw[h]|skip)|refine AK.loop ?_|refine AK.inLoop ?_)
 all_goals exact Wk.of_eq Z
end Go.Proofs
namespace Go.cE
def pJ:∀(l:L Acc)(i:Nat)(a:Acc)(z:Int),l[i]?=some a->lz (kW l i z)=lz l-a.cK+z
 |[],i,a,z,h=>by simp at h
 |x::l,0,a,z,h=>by simp at h;subst h;simp only[kW,lz,Acc.cF];omega
 |x::l,i+1,a,z,h=>by simp only[kW,lz,pJ l i a z h];omega
def zx:∀(l:L Acc),(∀a∈l,0<=a.cK)->0<=lz l
 |[],_=>by simp[lz]
 |a::l,h=>by have Y:=h a cS;have V:=zx l (λx O=>h x Ko);simp only[lz];omega
def Ju:∀(l:L Acc)(i:Nat)(a:Acc),(∀a∈l,0<=a.cK)->l[i]?=some a->a.cK<=lz l
 |[],i,a,_,h=>by simp at h
 |x::l,0,a,hb,h=>by simp at h;subst h;have Y:=zx l (λx O=>hb x Ko);simp only[lz];omega
 |x::l,i+1,a,hb,h=>by have V:=hb x cS;have Y:=Ju l i a (λx O=>hb x Ko) h;simp only[lz];omega
def RQ:∀(l:L Acc)(i j:Nat)(a b:Acc),(∀a∈l,0<=a.cK)->l[i]?=some a->l[j]?=some b->i≠j->a.cK+b.cK<=lz l
 |[],i,j,a,b,_,h,_,_=>by simp at h
 |x::l,0,0,a,b,hb,h,k,hn=>absurd Z hn
 |x::l,0,j+1,a,b,hb,h,k,hn=>by simp at h;subst h;have Y:=Ju l j b (λx O=>hb x Ko) k;simp only[lz];omega
 |x::l,i+1,0,a,b,hb,h,k,hn=>by simp at k;subst k;have Y:=Ju l i a (λx O=>hb x Ko) h;simp only[lz];omega
 |x::l,i+1,j+1,a,b,hb,h,k,hn=>by have V:=hb x cS;have Y:=RQ l i j a b (λx O=>hb x Ko) h k ai;simp only[lz];omega
def aaY{j:Nat}{a:Acc}{z:Int}(h:vv j a)(T:a.is≠0)(S:0<=z/\z<=4000000):vv j (a.cF z):=by unfold vv Ho gIn at h ⊢;have A:(a.cF z).is=a.is:=rfl;have Q:(a.cF z).cK=z:=rfl;have K:(a.cF z).cnt=a.cnt:=rfl;have V:(a.cF z).param=a.param:=rfl;have q:(a.cF z).store=a.store:=rfl;have M:(a.cF z).code=a.code:=rfl;have Y:(a.cF z).keep=a.keep:=rfl;rw[A,Q,K,V,q,M,Y];rw[aaI]at h ⊢;obtain⟨W,U⟩:=h;rw[if_neg T]at U ⊢;refine⟨?_,U⟩;simp_all
def wX:∀(l:L Acc)(k i:Nat)(a:Acc)(z:Int),gq k l->l[i]?=some a->a.is≠0->0<=z/\z<=4000000->gq k (kW l i z)
 |[],k,i,a,z,_,h,_,_=>by simp at h
 |x::l,k,0,a,z,N,h,Y,V=>by simp at h;subst h;simp only[gq,aaI]at N;simp only[kW,gq,aaI];exact⟨aaY N.1 Y V,N.2⟩
 |x::l,k,i+1,a,z,N,h,Y,V=>by simp only[gq,aaI]at N;simp only[kW,gq,aaI];exact⟨N.1,wX l (k+1) i a z N.2 h Y V⟩
def j7{l:eF}:tg l↔(0<=l.fu/\l.fu<=4000000)/\gq 0 l.aI/\Ke l=4000000:=by unfold tg;grind
def WZ{l:eF}{i j:Nat}{D aT:Acc}{n:Int}(N:tg l)(G:l.aI[i]?=some D)(T:l.aI[j]?=some aT)(Y:D.is≠0)(S:aT.is≠0)(A:0<=n)(J:n<=D.cK) :
  (0<=D.cK/\D.cK<=4000000)/\∃V:Acc,(l.cF i (D.cK-n)).aI[j]?=some V/\V.cK=(if i=j then D.cK-n else aT.cK)/\V.is≠0/\0<=V.cK/\V.cK+n<=4000000 /\
   tg ((l.cF i (D.cK-n)).cF j (V.cK+n))/\Ke ((l.cF i (D.cK-n)).cF j (V.cK+n))=Ke l:=by
 obtain⟨F,M,C⟩:=j7.1 N;have P:=vZ _ _ M;have O:=P D (acm G);have I:=P aT (acm T);refine⟨O,?_⟩;have q:(l.cF i (D.cK-n)).aI[j]?=if i=j then some (aT.cF (D.cK-n))else some aT:=by show(kW l.aI i (D.cK-n))[j]?=_;rw[zo,T];rfl
 unfold Ke at C;by_cases W:i=j
 ·subst W;obtain rfl:D=aT:=by rw[G]at T;exact Option.some.inj T
  rw[if_pos rfl]at q;have Q:(kW l.aI i (D.cK-n))[i]?=some (D.cF (D.cK-n)):=q;have U:(D.cF (D.cK-n)).cK=D.cK-n:=rfl;refine⟨_,q,by rw[if_pos Z,U],Y,by rw[U];omega,by rw[U];omega,?_,?_⟩;rw[j7];refine⟨F,?_,?_⟩;exact wX _ _ _ _ _ (wX _ _ _ _ _ M G Y ai) q Y (by rw[U];omega);show l.fu+lz (kW (kW l.aI i (D.cK-n)) i _)=_;rw[pJ _ _ _ _ Q,pJ _ _ _ _ G,U];omega;show l.fu+lz (kW (kW l.aI i (D.cK-n)) i _)=l.fu+lz l.aI;rw[pJ _ _ _ _ Q,pJ _ _ _ _ G,U];omega
 rw[if_neg W]at q;have Q:(kW l.aI i (D.cK-n))[j]?=some aT:=q;have E:=RQ l.aI i j D aT (λa K=>(P a K).1) G T W;refine⟨_,q,by rw[if_neg W],S,ai,ai,?_,?_⟩;rw[j7];refine⟨F,?_,?_⟩;exact wX _ _ _ _ _ (wX _ _ _ _ _ M G Y ai) q S ai;show l.fu+lz (kW (kW l.aI i (D.cK-n)) j _)=_;rw[pJ _ _ _ _ Q,pJ _ _ _ _ G];omega;show l.fu+lz (kW (kW l.aI i (D.cK-n)) j _)=l.fu+lz l.aI;rw[pJ _ _ _ _ Q,pJ _ _ _ _ G];omega
end Go.cE
namespace Go.Proofs
open Go.cE
mutual
def Jv:∀(t:Nd)(d:Int),fG t d=0->bE t<=many t*201
 |.mk T n p s Y,d,h=>by obtain⟨V,U⟩:=kY h;have B:=(oC V).2.2.2.2.2.2.2.2;have W:=F4 Y _ U;simp only[bE,many];omega
def F4:∀(l:Θ)(d:Int),dJ l d=0->aP l<=cV l*201
 |[],_,_=>by simp[aP]
 |x::l,d,h=>by simp only[dJ]at h;by_cases Y:fG x d=0;rw[if_pos Y]at h;have V:=Jv x d Y;have U:=F4 l d h;simp only[aP,cV];omega;omega
end
def Cc{n:Nd}(h:ey n=0):bE n<=60300:=by obtain⟨Y,V⟩:=lF.1 h;have:=Jv n 1 Y;omega
def lJ{t:Ty}(ok:mN t)(i:Nat):bh (aL t i)<=300:=by
 obtain⟨T,Y⟩:=t;have V:=ok.2;simp only[bh]at V;show bh (Y.getD i kg)<=300;rw[aiC];cases h:Y[i]? with
 |none=>simp[bh,kg,bf]
 |some x=>have:=cN (acm h);simp;omega
def aaZ{k n a:Int}{s:Δ}{N:Ξ}{Q:Γ}{code:Θ}{t:Ty}(ok:mN t)(h:bJ (.mk k n a s N Q code) t)(W:fE (.mk k n a s N Q code)):s.length+bf Q+aP code+1<=62000:=by
 unfold bJ at h;by_cases T:k≠cL t\/cG (.mk k n a s N Q code)=false\/200<s.length;simp_all;rw[if_neg T]at h;have M:cG (.mk k n a s N Q code):=by grind
 have I:s.length<=200:=by omega
 by_cases V:k=14
 ·subst V;simp only[fE,if_true,aaI]at W;have D:=sr (ahG W.1.1);have P:=Cc D.1;simp only[bE]at P;have Y:Q.length=2/\a=0/\n=0/\s=[]/\N.length=0:=by simpa[cG]using M
  have E:(cx (aL t 0) (Q.getD 0 kg)&&cx (aL t 1) (Q.getD 1 kg))=true:=by simpa using h
  simp only[aaI]at E;have H:=(eD _ _).1 E.1;have A:=(eD _ _).1 E.2;rcases Q with _|⟨u,_|⟨w,_|⟨z,r⟩⟩⟩
  simp_all;simp_all;simp at H A;have O:=lJ ok 0;have S:=lJ ok 1;rw[H]at O;rw[A]at S;simp only[bf];omega;simp at Y
 by_cases p:k=8
 ·subst p;have Y:Q.length=1/\code.length=0/\s=[]:=by simpa[cG]using M
  have E:bA (Q.getD 0 kg)=true:=by simp at h;exact h.1.2
  rw[List.length_eq_zero_iff.1 Y.2.1];rcases Q with _|⟨u,_|⟨w,r⟩⟩
  simp at Y;have:=(bw E).2;simp only[aaw]at this;simp only[bf,aP];omega;simp at Y
 have K:Q.length=0/\code.length=0:=by unfold cG at M;dsimp only at M;by_cases U:k=15;rw[if_pos U]at M;have:=ahG M;exact⟨this.1,this.2.1⟩;rw[if_neg U,if_neg p,if_neg V]at M;by_cases G:k=6;rw[if_pos G]at M;have:=ahG M;exact⟨this.1,this.2.1⟩;rw[if_neg G]at M;have:=ahG M;exact⟨this.1,this.2.1⟩
 rw[List.length_eq_zero_iff.1 K.1,List.length_eq_zero_iff.1 K.2];simp only[bf,aP];omega
mutual
def E0:∀(v:Vl)(t:Ty),mN t->bJ v t->fE v->aG v<=iG v*62000
 |.mk k n a s F o code,.mk T j,ok,h,Y=>by
  have P:=DA F;have m:=DB F;have C:F.length=0->aH F<=jA F*62000:=λh=>by rw[List.length_eq_zero_iff.1 h];simp[aH]
  have M:=sM ok;have W:=aaZ ok h Y;unfold bJ at h;by_cases V:k≠cL (.mk T j)\/cG (.mk k n a s F o code)=false\/200<s.length;rw[if_pos V]at h;cases h;rw[if_neg V]at h;have D:cG (.mk k n a s F o code):=by
   cases i:cG (.mk k n a s F o code)with
   |true=>rfl
   |false=>exact absurd (.inr (.inl i)) V
  have A:k=T:=aip λK=>V (.inl K);subst A;clear V;have d1:∀{p q:Prop}[Decidable (p/\q)],decide (p/\q)->q:=λh=>(ahG h).2
  suffices d:aH F<=jA F*62000 by
   simp only[aG,iG]at W ⊢;omega
  by_cases S:k=14;subst S;have f:o.length=2/\a=0/\n=0/\s=[]/\F.length=0:=(by simpa[cG]using D);exact C f.2.2.2.2;have U:eo F:=by simpa[fE,S]using Y
  replace P:=λt ok h=>P t ok h U;replace m:=λr ok h E=>m r ok h E U;by_cases B:k=1\/k=6;rw[if_pos B]at h;exact C (ahG h).2;rw[if_neg B]at h;by_cases u:k=2;rw[if_pos u]at h;exact C (ahG h).2.2;rw[if_neg u]at h;by_cases J:k=3;rw[if_pos J]at h;exact C (ahG h).2.2;rw[if_neg J]at h;by_cases c4:k=4\/k=5;rw[if_pos c4]at h;exact C (ahG h).2.2;rw[if_neg c4]at h;by_cases I:k=7;rw[if_pos I]at h;exact C (ahG h).2.2;rw[if_neg I]at h;by_cases Q:k=9;rw[if_pos Q,aaI]at h;subst Q;obtain⟨x,rfl,O⟩:=dD ok bn;exact P x O h.2;rw[if_neg Q]at h;by_cases vR:k=10;rw[if_pos vR,aaI]at h;subst vR;obtain⟨x,rfl,O⟩:=dD ok bn;exact P x O h.2;rw[if_neg vR]at h;by_cases CW:k=11;rw[if_pos CW,aaI]at h;subst CW;have z:=M.1;rw[show arity 11=2 from by decide]at z;exact m j (λx O=>M.2 x O) h.2 aab;rw[if_neg CW]at h;by_cases CX:k=12
  ·rw[if_pos CX,aaI]at h;subst CX;obtain⟨x,y,rfl,O,G⟩:=dr ok bn;have b:=ahG h.1;rcases(show n=0\/n=1 by omega)with rfl|rfl
   exact P x O h.2;exact P y G h.2
  rw[if_neg CX]at h;by_cases CY:k=13;rw[if_pos CY,aaI,aaI]at h;subst CY;exact P _ (CQ ok bn) h.1.2;rw[if_neg CY,if_neg S]at h;by_cases N:k=15;rw[if_pos N,aaI]at h;subst N;obtain⟨x,rfl,O⟩:=dD ok bn;exact P x O h.2;rw[if_neg N]at h;by_cases H:k=8;rw[if_pos H,aaI,aaI]at h;exact P _ (bw h.1.2) h.2;rw[if_neg H]at h;cases h
def DA:∀(l:Ξ)(t:Ty),mN t->aS l t->eo l->aH l<=jA l*62000
 |[],_,_,_,_=>by simp[aH]
 |x::l,t,ok,h,Y=>by simp only[aS,aaI]at h;simp only[eo,aaI]at Y;have V:=E0 x t ok h.1 Y.1;have U:=DA l t ok h.2 Y.2;simp only[aH,jA];omega
def DB:∀(l:Ξ)(r:Γ),(∀x∈r,mN x)->dM l r->l.length<=r.length->eo l->aH l<=jA l*62000
 |[],_,_,_,_,_=>by simp[aH]
 |x::l,[],_,_,h,_=>by simp at h
 |x::l,t::r,ok,h,E,Y=>by simp only[dM,aaI]at h;simp only[eo,aaI]at Y;simp only[aat]at E;have V:=E0 x t (ok t cS) h.1 Y.1;have U:=DB l r (λy G=>ok y aga) h.2 ai Y.2;simp only[aH,jA];omega
end
def D8{v:Vl}{t:Ty}(h:fK t v):aG v<=iG v*62000:=by unfold fK oJ at h;simp at h;exact E0 v t (bw h.1.1) h.1.2 h.2
def QV(f:iH)(t:List iH)(j:Nat)(G:j<4)(v:CV):bQ (0+t.length*4+j) [.c v] (aq (fR (f::t)))=some (aq (fR t)++(aq [vJ f]).set j (.c v)):=by
 have h:=GV t;have e:(aq (fR t)).length=t.length*4:=by rw[aq,ahY];exact h
 have E:0+t.length*4+j<(aq (fR (f::t))).length:=by rw[nY,acg,e];show _<_+4;omega
 rw[FQ E,nY,ahr,List.set_append_right _ _ ai,e,Nat.add_sub_cancel_left]
def IY(f:iH)(t:List iH)(n:Nat):bQ (0+t.length*4+1) [.c (ah (n:Nat))] (aq (fR (f::t)))=some (aq (fR ({f with pos:=n}::t))):=by rw[QV f t 1 bn,nY];rfl
def aan(f:iH)(t:List iH)(l:Ξ):bQ (0+t.length*4+3) [.c (.sl 7 (aa l))] (aq (fR (f::t)))=some (aq (fR ({f with aside:=l}::t))):=by rw[QV f t 3 bn,nY];rfl
def aao(code:Θ)(fin:Int)(P:Ξ)(t:List iH):bQ (0+t.length*4+1) [.c (ah ((aD code).length:Nat))] (aq (fR (⟨code,0,fin,P⟩::t)))=some (aq (fR (⟨code,code.length,fin,P⟩::t))):=by rw[bq];exact IY _ _ _
attribute [local irreducible] AK ag aZ bS cA de nQ aM gV
def Kr(S:bM)(T:Int)(p:Δ)(I q1:Int)(W:Δ)(G:Θ)(V Q:Int)(P:Δ)(U:Θ)(k c:Int)(s:Δ)(F:Γ)(code:Θ)(x:Vl)(O:aG x<=8589934593)(E:S.st.length<=1000000000)(u:S.fr.length<=1099511627776):jT 116 S [.c (aV (.mk 2 T 52 p [.mk 3 I q1 W G,.mk 3 V Q P U])),.c (.sl 7 (aa [.mk k 0 c s [x] F code]))] (bg (dZ S G 0 []) [x]):=by have N:=jj S G 0 u;have M:=gY (dZ S G 0 []) x O E;obtain⟨K,q,J,H,Y,D,B⟩:=x;exact mdm func116 call116
def Ks(S:bM)(T:Int)(p:Δ)(I q1:Int)(W:Δ)(G:Θ)(V Q:Int)(P:Δ)(u:Θ)(k c:Int)(s:Δ)(F:Γ)(code:Θ)(x:Vl)(O:aG x<=8589934593)(E:S.st.length<=1000000000)(J:S.fr.length<=1099511627776):jT 116 S [.c (aV (.mk 2 T 52 p [.mk 3 I q1 W G,.mk 3 V Q P u])),.c (.sl 7 (aa [.mk k 1 c s [x] F code]))] (bg (dZ S u 0 []) [x]):=by have U:=jj S u 0 J;have M:=gY (dZ S u 0 []) x O E;obtain⟨N,q,K,H,Y,D,B⟩:=x;exact mdm func116 call116
def Kt(S:bM)(T:Int)(p:Δ)(Y q1:Int)(W:Δ)(G:Θ)(V Q:Int)(P:Δ)(U:Θ)(k c:Int)(s:Δ)(N:Γ)(code:Θ)(n:Int)(E:S.st.length<=1000000000)(u:S.fr.length<=1099511627776):jT 116 S [.c (aV (.mk 2 T 55 p [.mk 3 Y q1 W G,.mk 3 V Q P U])),.c (.sl 7 (aa [.mk k n c s [] N code]))] (bg (dZ S G 0 []) []):=by have O:=jj S G 0 u;have M:=tY (dZ S G 0 []) [] (λ_ h=>by simp at h) cS (by show S.st.length+0<=_;omega);exact mdm func116 call116
def Ku(S:bM)(T:Int)(p:Δ)(I q1:Int)(W:Δ)(G:Θ)(V Q:Int)(P:Δ)(u:Θ)(k c:Int)(s:Δ)(F:Γ)(code:Θ)(n:Int)(x:Vl)(O:aG x<=8589934593)(E:S.st.length<=1000000000)(J:S.fr.length<=1099511627776):jT 116 S [.c (aV (.mk 2 T 55 p [.mk 3 I q1 W G,.mk 3 V Q P u])),.c (.sl 7 (aa [.mk k n c s [x] F code]))] (bg (dZ S u 0 []) [x]):=by have U:=jj S u 0 J;have M:=gY (dZ S u 0 []) x O E;obtain⟨N,q,K,H,Y,D,B⟩:=x;exact mdm func116 call116
def Kv(S:bM)(T:Int)(p:Δ)(Y q1:Int)(W:Δ)(G:Θ)(V Q:Int)(P:Δ)(u:Θ)(k c:Int)(s:Δ)(O:Γ)(code:Θ)(n:Int)(E:S.st.length<=1000000000)(J:S.fr.length<=1099511627776):jT 116 S [.c (aV (.mk 2 T 58 p [.mk 3 Y q1 W G,.mk 3 V Q P u])),.c (.sl 7 (aa [.mk k n c s [] O code]))] (((0,dZ S u 0 []):MR)):=by have U:=jj S u 0 J;exact mdm func116 call116
def Kw(S:bM)(T:Int)(p:Δ)(W q1:Int)(E:Δ)(G:Θ)(V Q:Int)(P:Δ)(U:Θ)(k c:Int)(s:Δ)(F:Γ)(code:Θ)(n:Int)(x:Vl)(z:Ξ)(O:aG x<=8589934593)(Y:aG (.mk 10 0 0 [] z [] [])<=8589934593)(N:S.st.length<=1000000000)(u:S.fr.length<=1099511627776):jT 116 S [.c (aV (.mk 2 T 58 p [.mk 3 W q1 E G,.mk 3 V Q P U])),.c (.sl 7 (aa [.mk k n c s (x::z) F code]))] (bg (dZ S G 0 []) [.mk 10 0 0 [] z [] [],x]):=by
 have M:=jj S G 0 u;have K:=agv (dZ S G 0 []) (.mk 10 0 0 [] z [] []) x Y O N;have D:((((aa (x::z)).length:Nat):Int)==0)=false:=by simp only[aa,aat];exact beq_eq_false_iff_ne.2 ai
 obtain⟨J,q,H,C,I,B,A⟩:=x;exact mdm func116 call116
def Nq(S:bM)(T:Int)(p:Δ)(I q1:Int)(W:Δ)(G:Θ)(k c:Int)(s:Δ)(U:Γ)(code:Θ)(n:Int)(Q:Ξ)(E:S.st.length<=1000000000)(u:S.fr.length<=1099511627776):jT 116 S [.c (aV (.mk 2 T 60 p [.mk 3 I q1 W G])),.c (.sl 7 (aa [.mk k n c s Q U code]))] (((0,sE S G 3 Q):MR)):=by
 have V:=zZ S G 3 Q u;have q:i64.wrap (((S.fr.length+1:Nat):Int)-1)=(S.fr.length:Nat):=by rw[gW ai ai];omega
 have Y:=aao G 3 Q S.fr;refine mn func116 call116 λP hf=>?_
 repeat' (first|refine pS ?_|refine zc ?_ ?_|(intro h;first|(cases h;done)|rw[h]|skip)|refine uI Z (0) Z (Z) Z ?_|refine xY ?_ (hq:=V)|refine ag.kZ hX kn Z Z Z Z Z Z Z Z Z S.fr.length q (aid _) ?_|refine ag.store hX kn Z Z Z Z Z Z Z Z Z Y Z ?_|(refine uA Z ?_ ?_<;>(try (show(_:Nat)*_<=_;dsimp only))))
 all_goals rfl
def QW(S:bM)(T:Int)(p:Δ)(Y q1:Int)(W:Δ)(G:Θ)(V Q:Int)(P:Δ)(u:Θ)(k c:Int)(s:Δ)(O:Γ)(code:Θ)(N:Ξ)(E:S.st.length<=1000000000)(J:S.fr.length<=1099511627776):jT 116 S [.c (aV (.mk 2 T 64 p [.mk 3 Y q1 W G,.mk 3 V Q P u])),.c (.sl 7 (aa [.mk k 0 c s N O code]))] (((0,dZ S u 0 []):MR)):=by
 have U:=jj S u 0 J;refine mn func116 call116 λM hf=>?_
 repeat' (first|refine pS ?_|refine zc ?_ ?_|(intro h;first|(cases h;done)|rw[h]|skip)|refine uI Z (0) Z (Z) Z ?_|refine uI Z 1 Z Z Z ?_|refine xY ?_ (hq:=U)|(refine uA Z ?_ ?_<;>(try (show(_:Nat)*_<=_;dsimp only))))
 all_goals rfl
def QX(S:bM)(T:Int)(p:Δ)(Y q1:Int)(W:Δ)(G:Θ)(V Q:Int)(P:Δ)(U:Θ)(k c:Int)(s:Δ)(N:Γ)(code:Θ)(M:Ξ)(E:S.st.length<=1000000000)(u:S.fr.length<=1099511627776):jT 116 S [.c (aV (.mk 2 T 64 p [.mk 3 Y q1 W G,.mk 3 V Q P U])),.c (.sl 7 (aa [.mk k 1 c s M N code]))] (((0,dZ S G 0 []):MR)):=by
 have O:=jj S G 0 u;refine mn func116 call116 λK hf=>?_
 repeat' (first|refine pS ?_|refine zc ?_ ?_|(intro h;first|(cases h;done)|rw[h]|skip)|refine uI Z (0) Z (Z) Z ?_|refine uI Z 0 Z Z Z ?_|refine xY ?_ (hq:=O)|(refine uA Z ?_ ?_<;>(try (show(_:Nat)*_<=_;dsimp only))))
 all_goals rfl
def Nr(S:bM)(T:Int)(p:Δ)(I q1:Int)(E:Δ)(G:Θ)(x:Vl)(M:S.st.length<=1000000000)(u:S.fr.length<=1099511627776):jT 116 S [.c (aV (.mk 2 T 65 p [.mk 3 I q1 E G])),.c (.sl 7 (aa [x]))] (((0,{sE S G 4 []with st:=x::S.st}):MR)):=by
 have U:=jj S G 4 u;have q:i64.wrap (((S.fr.length+1:Nat):Int)-1)=(S.fr.length:Nat):=by rw[gW ai ai];omega
 have W:=aao G 4 [] S.fr;obtain⟨Q,P,O,H,Y,N,B⟩:=x;have V:=T4 Q P O H Y N B S.st;refine mn func116 call116 λK hf=>?_
 repeat' (first|refine pS ?_|refine zc ?_ ?_|(intro h;first|(cases h;done)|rw[h]|skip)|refine uI Z (0) Z (Z) Z ?_|refine xY ?_ (hq:=U)|refine ag.kZ hX kn Z Z Z Z Z Z Z Z Z S.fr.length q (aid _) ?_|refine ag.store hX kn Z Z Z Z Z Z Z Z Z W Z ?_|refine ag.od hX kn Z Z Z Z Z Z Z Z Z Z Z Z Z Z Z (sR S.st) [] (ahq _).symm (kK _).symm (xZ _) Z Z Z Z Z Z Z (show((sR S.st).length+1)*112<=_ by rw[kK];omega) Z (m:=S.st.length+1) (by rw[acg,kK];rfl) Z ?_|refine ag.kZ hX kn Z Z Z Z Z Z Z Z Z S.st.length Z (aid _) ?_|refine ag.store hX kn Z Z Z Z Z Z Z Z Z (V _ Z) Z ?_|(refine uA Z ?_ ?_<;>(try (show(_:Nat)*_<=_;dsimp only))))
 all_goals rfl
def QY(S:bM)(T:Int)(p:Δ)(I q1:Int)(W:Δ)(G:Θ)(x:Vl)(E:S.st.length<=1000000000)(u:S.fr.length<=1099511627776):jT 116 S [.c (aV (.mk 2 T 68 p [.mk 3 I q1 W G])),.c (.sl 7 (aa [x]))] (((0,dZ S G 1 [x]):MR)):=by have V:=zZ S G 1 [x] u;obtain⟨U,q,Q,P,Y,H,B⟩:=x;exact mdm func116 call116
def IZ(S:bM)(A:Int)(p:Δ)(x y:Nd)(Y q1:Int)(W:Δ)(G:Θ)(O:bE x<=8589934593)(V:bE y<=8589934593)(u:aG (.mk 14 0 0 [] [] [(aM x).1,(aM y).1] G)<=8589934593)(E:S.st.length<=1000000000)(J:S.fr.length<=1099511627776):jT 116 S [.c (aV (.mk 2 A 66 p [x,y,.mk 3 Y q1 W G])),.c (.sl 7 (aa []))] (bg S [.mk 14 0 0 [] [] [(aM x).1,(aM y).1] G]):=by have M:=gY S (.mk 14 0 0 [] [] [(aM x).1,(aM y).1] G) u E;have U:=ke x O;have Q:=ke y V;clear u;generalize aM x=tp at M U ⊢;generalize aM y=tq at M Q ⊢;obtain⟨⟨T,F⟩,e⟩:=tp;obtain⟨⟨K,P⟩,e2⟩:=tq;obtain⟨N,I,H,D,C⟩:=x;obtain⟨B,q,z,t,r⟩:=y;exact mdm func116 call116
def Ns(S:bM)(T:Int)(p:Δ)(x:Vl)(k c:Int)(s:Δ)(O:Γ)(code:Θ)(n:Int)(N:Ξ)(E:S.st.length<=1000000000)(u:S.fr.length<=1099511627776):jT 116 S [.c (aV (.mk 2 T 67 p [])),.c (.sl 7 (aa [x,.mk k n c s N O code]))] (((0,{dZ S code 2 S.st.reverse with st:=[x]}):MR)):=by
 have W:=Nt S code 2 S.st.reverse u;obtain⟨V,U,Q,P,Y,H,B⟩:=x;refine mn func116 call116 λM hf=>?_;refine GU S Z Z Z Z Z Z Z [] (λ_=>trivial) Z (env':=[(0,.ptr 1000000 0),(1,.c (aV (.mk 2 T 67 p []))),(2,.c (.sl 7 (aa [.mk V U Q P Y H B,.mk k n c s N O code])))]) (ts':=[]) ce trivial ?_
 repeat' (first|refine ag.ku hX kn Z Z Z Z Z Z Z Z Z Z Z Z Z Z ?_|refine pS ?_|refine zc ?_ ?_|(intro h;first|(cases h;done)|rw[h]|skip)|refine uI Z (0) Z (Z) Z ?_|refine uI Z (1) Z (Z) Z ?_|refine agw ?_ (hq:=W)|(refine uA Z ?_ ?_<;>(try (show(_:Nat)*_<=_;dsimp only))))
 all_goals rfl
end Go.Proofs
namespace Go.Proofs
open Go.cE
def Fit(t:Ty)(v:Vl):Prop:=fK t v/\aG v<=25000000
def dj:Γ->Ξ->Prop
 |[],[]=>True
 |t::s,v::l=>Fit t v/\dj s l
 |_,_=>False
def bH:∀{s l},dj s l->s.length=l.length
 |[],[],_=>rfl
 |t::s,v::l,h=>by simp only[aat,bH h.2]
 |[],_::_,h=>h.elim
 |_::_,[],h=>h.elim
def YZ{l}(h:dj [] l):l=[]:=by
 cases l with
 |nil=>rfl
 |cons _ _=>exact h.elim
def aK{t}{s:Γ}{l}(h:dj (t::s) l):∃v q,l=v::q/\Fit t v/\dj s q:=by
 cases l with
 |nil=>exact h.elim
 |cons v q=>exact⟨v,q,Z,h.1,h.2⟩
def Jw:∀{s l}{i:Nat}{t},dj s l->s[i]?=some t->∃v,l[i]?=some v/\Fit t v
 |t::s,v::l,0,u,h,e=>⟨v,rfl,by simp at e;subst e;exact h.1⟩
 |t::s,v::l,i+1,u,h,e=>Jw (i:=i) h.2 (by simpa using e)
 |[],_,_,_,_,e=>by simp at e
 |_::_,[],_,_,h,_=>h.elim
def E1:∀{s l}(i),dj s l->dj (s.take i) (l.take i)
 |_,_,0,_=>trivial
 |t::s,v::l,i+1,h=>⟨h.1,E1 i h.2⟩
 |[],[],i+1,_=>trivial
 |[],_::_,_+1,h=>h.elim
 |_::_,[],_+1,h=>h.elim
def E2:∀{s l}(i),dj s l->dj (s.drop i) (l.drop i)
 |_,_,0,h=>h
 |t::s,v::l,i+1,h=>E2 (s:=s) (l:=l) i h.2
 |[],[],i+1,_=>trivial
 |[],_::_,_+1,h=>h.elim
 |_::_,[],_+1,h=>h.elim
def Ai:∀{s r l m},dj s l->dj r m->dj (s++r) (l++m)
 |[],_,[],_,_,h=>h
 |t::s,_,v::l,_,h,Y=>⟨h.1,Ai h.2 Y⟩
 |[],_,_::_,_,h,_=>h.elim
 |_::_,_,[],_,h,_=>h.elim
def aA(P:Int)(Y:Θ)(S:bM):MR:=match jx (bP P) S.st with
 |some (l,r)=>rU P Y l {S with st:=r}
 |none=>(14,{S with st:=[]})
def bV(S:bM)(r:Γ×Bool)(o:MR):Prop :=
 (o.1=0/\o.2.fr=S.fr/\dj r.1 o.2.st/\r.2=false)\/o.1=11\/o.1=13
def bt(T:Int)(p:Δ)(P:Int)(Y:Θ)(S:bM):Prop:=cM 98 S [.c (aV (.mk 2 T P p Y))] (ah (aA P Y S).1) (aA P Y S).2
def sF:∀l st,(nQ l st).1=13\/((nQ l st).1=0/\(nQ l st).2=l.reverse++st/\∀v∈l,iG v<=200)
 |[],st => .inr ⟨Z,Z,λv h=>by simp at h⟩
 |x::l,st=>by
  unfold nQ;by_cases h:iG x>200;grind;rw[if_neg h];rcases sF l (x::st)with Y|⟨Y,V,B⟩
  omega;grind
def OA{t v}(h:fK t v)(Y:iG v<=200):Fit t v:=⟨h,by have:=D8 h;omega⟩
def cu{S s t v}(h:fK t v)(Y:dj s S.st):bV S (t::s,false) (bg S [v]):=by
 rcases sF [v] S.st with V|⟨V,U,B⟩
 exact .inr (.inr V);refine .inl ⟨V,Z,?_,Z⟩;show dj _ (nQ [v] S.st).2;rw[U];exact⟨OA h (B v cS),Y⟩
def NK{S s t u v w}(h:fK t v)(E:fK u w)(Y:dj s S.st):bV S (t::u::s,false) (bg S [w,v]):=by
 rcases sF [w,v] S.st with V|⟨V,U,B⟩
 exact .inr (.inr V);refine .inl ⟨V,Z,?_,Z⟩;show dj _ (nQ [w,v] S.st).2;rw[U];exact⟨OA h (B v cS),OA E (B w cS),Y⟩
def l8{P Y V}(h:bB P Y=some V):Y.length=(iq P).length/\lq (iq P) Y []=some V:=by unfold bB at h;simp_all
def cQ{P U V}(h:bB P U=some V)(Y:iq P=[]):U=[]/\V=[]:=by obtain⟨T,S⟩:=l8 h;rw[Y]at T S;obtain rfl:=List.length_eq_zero_iff.1 T;cases S;exact⟨rfl,rfl⟩
def DC{P U V}(h:bB P U=some V)(Y:iq P=[110]):∃N p q x,U=[.mk 0 (N:Nat) p q x]/\N<=40/\V=[]:=by obtain⟨Q,S⟩:=l8 h;rw[Y]at Q S;obtain⟨y,rfl⟩:=List.length_eq_one_iff.1 Q;obtain⟨T,N,p,q,x⟩:=y;simp only[lq,if_true]at S;split at S;rename_i c;obtain⟨rfl,G,u⟩:=c;cases S;exact⟨N.toNat,p,q,x,by rw[Int.toNat_of_nonneg G],ai,rfl⟩;grind
def Wc:bP 40=1:=by decide +kernel
def Wd:bP 41=0:=by decide +kernel
def We:bP 42=2:=by decide +kernel
def Wf:bP 43=0:=by decide +kernel
def Wg:bP 44=1:=by decide +kernel
def UO(S T p V U s)(r:Γ×Bool)(hf:bB 40 V=some U)(Y:dj s S.st)(E:s.length<=340)(D:iK 40 V s=(r,0)):bt T p 40 V S/\bV S r (aA 40 V S):=by
 obtain⟨a,b,c,d,st,C,g,u,m,K⟩:=S;obtain⟨rfl,rfl⟩:=cQ hf bn;have W:=bH Y;cases s with
 |nil=>cases D
 |cons t s =>
  obtain⟨v,q,rfl,J,Q⟩:=aK Y;cases D;have e:aA 40 [] ⟨a,b,c,d,v::q,C,g,u,m,K⟩=(0,⟨a,b,c,d,q,C,g,u,m,K⟩):=by unfold aA;rfl
  exact⟨wW _ _ 2 T 40 p [] [v] q 0 bn (by rw[Wc];rfl) (by simp at *;omega) (Xp _ T p [v]),.inl ⟨Z,Z,Q,Z⟩⟩
def UP(S T p Q P s)(r:Γ×Bool)(hf:bB 42 Q=some P)(Y:dj s S.st)(E:s.length<=340)(D:iK 42 Q s=(r,0)):bt T p 42 Q S/\bV S r (aA 42 Q S):=by
 obtain⟨a,b,c,d,st,C,g,u,m,K⟩:=S;obtain⟨rfl,rfl⟩:=cQ hf bn;have V:=bH Y;rcases s with _|⟨t1,_|⟨I,s⟩⟩
 cases D;cases D;obtain⟨v,A,rfl,J,U⟩:=aK Y;obtain⟨w,q,rfl,W,O⟩:=aK U;cases D;have e:aA 42 [] ⟨a,b,c,d,v::w::q,C,g,u,m,K⟩=bg ⟨a,b,c,d,q,C,g,u,m,K⟩ [v,w]:=by unfold aA;rfl
 simp at V E;exact⟨wW _ _ 2 T 42 p [] [v,w] q _ bn (by rw[We];rfl) oe (Xq ⟨a,b,c,d,q,C,g,u,m,K⟩ T p v w (by have:=J.2;omega) (by have:=W.2;omega) (by show q.length<=_;omega)),NK (S:=⟨a,b,c,d,q,C,g,u,m,K⟩) W.1 J.1 O⟩
def Wh{Y:Type}{l:List Y}{i d}(h:i<l.length):l[i]?=some (l.getD i d):=by simp_all
def XU(S T W M F s)(r:Γ×Bool)(hf:bB 41 M=some F)(I:dj s S.st)(E:s.length<=340)(D:iK 41 M s=(r,0)):bt T W 41 M S/\bV S r (aA 41 M S):=by
 obtain⟨a,b,c,d,st,C,g,u,m,K⟩:=S;obtain⟨N,p,q,x,rfl,Q,rfl⟩:=DC hf bn;have V:=bH I;simp only at I V;have O:(if 1<=(N:Int)/\(N:Int)<=s.length/\jI (s.getD ((N:Int)-1).toNat kg)=true then fO (s.getD ((N:Int)-1).toNat kg::s)else br 5)=(r,0):=D;split at O
 ·rename_i P;cases O;rw[show((N:Int)-1).toNat=N-1 from by omega];have U:=Wh (l:=s) (i:=N-1) (d:=kg) ai;obtain⟨v,J,Y⟩:=Jw I U;have e:aA 41 [.mk 0 (N:Nat) p q x] ⟨a,b,c,d,st,C,g,u,m,K⟩=bg ⟨a,b,c,d,st,C,g,u,m,K⟩ [v]:=by show bg _ [lV st ((N:Int).toNat-1)]=_;rw[acn,aah J]
  unfold bt;rw[e];exact⟨wW _ _ 2 T 41 W _ [] st _ bn (by rw[Wd];rfl) YN (aai ⟨a,b,c,d,st,C,g,u,m,K⟩ T W N p q x [] v ai J (by have:=Y.2;omega) YN),cu (S:=⟨a,b,c,d,st,C,g,u,m,K⟩) Y.1 I⟩
 cases O
def XV(S T K P M s)(r:Γ×Bool)(hf:bB 43 P=some M)(Y:dj s S.st)(E:s.length<=340)(D:iK 43 P s=(r,0)):bt T K 43 P S/\bV S r (aA 43 P S):=by
 obtain⟨a,b,c,d,st,fr,g,u,m,said⟩:=S;obtain⟨N,p,q,x,rfl,Q,rfl⟩:=DC hf bn;have V:=bH Y;simp only at Y V;have O:(if(N:Int)<s.length then fO (s.getD (N:Int).toNat kg::(s.take (N:Int).toNat++s.drop ((N:Int).toNat+1)))else br 5)=(r,0):=D;split at O
 ·rename_i G;cases O;have U:=Wh (l:=s) (i:=N) (d:=kg) ai;obtain⟨v,J,W⟩:=Jw Y U;have e:aA 43 [.mk 0 (N:Nat) p q x] ⟨a,b,c,d,st,fr,g,u,m,said⟩=(0,⟨a,b,c,d,v::(st.take N++st.drop (N+1)),fr,g,u,m,said⟩):=by show((0,{self:=a,jr:=b,js:=c,balance:=d,st:=lV st (N:Int).toNat::(st.take (N:Int).toNat++st.drop ((N:Int).toNat+1)),fr:=fr,bC:=g,used:=u,aj:=m,said:=said}):MR)=_;rw[acn,aah J]
  unfold bt;rw[e];exact⟨wW _ _ 2 T 43 K _ [] st _ bn (by rw[Wf];rfl) YN (aak ⟨a,b,c,d,st,fr,g,u,m,said⟩ T K N p q x [] v J YN),.inl ⟨Z,Z,⟨W,Ai (E1 N Y) (E2 (N+1) Y)⟩,Z⟩⟩
 cases O
def XW(S T Y U Q s)(r:Γ×Bool)(hf:bB 44 U=some Q)(I:dj s S.st)(E:s.length<=340)(D:iK 44 U s=(r,0)):bt T Y 44 U S/\bV S r (aA 44 U S):=by
 obtain⟨a,b,c,d,st,C,g,u,m,K⟩:=S;obtain⟨N,p,q,x,rfl,V,rfl⟩:=DC hf bn;have W:=bH I;cases s with
 |nil=>cases D
 |cons t s =>
  obtain⟨v,st,rfl,J,P⟩:=aK I;simp at W E;have O:(if(N:Int)<s.length+1 then fO (s.take (N:Int).toNat++t::s.drop (N:Int).toNat)else br 5)=(r,0):=D;split at O;rename_i G;cases O;have e:aA 44 [.mk 0 (N:Nat) p q x] ⟨a,b,c,d,v::st,C,g,u,m,K⟩=(0,⟨a,b,c,d,st.take N++v::st.drop N,C,g,u,m,K⟩):=(by rfl);exact⟨wW _ _ 2 T 44 Y _ [v] st _ bn (by rw[Wg];rfl) (by show(v::st).length<=_;simp;omega) (aam ⟨a,b,c,d,st,C,g,u,m,K⟩ T Y N p q x v (by show N<=st.length;omega) YN),.inl ⟨Z,Z,Ai (E1 N P) ⟨J,E2 N P⟩,Z⟩⟩;cases O
def Uv(P)(W:40<=P/\P<=44)(S T p V U s)(r:Γ×Bool)(hf:bB P V=some U)(Y:dj s S.st)(E:s.length<=340)(D:iK P V s=(r,0)):bt T p P V S/\bV S r (aA P V S):=by
 rcases(show P=40\/P=41\/P=42\/P=43\/P=44 by omega)with rfl|rfl|rfl|rfl|rfl
 exact UO S T p V U s r hf Y E D;exact XU S T p V U s r hf Y E D;exact UP S T p V U s r hf Y E D;exact XV S T p V U s r hf Y E D;exact XW S T p V U s r hf Y E D
def oG{t}:∀a b,aS (a++b) t=(aS a t&&aS b t)
 |[],b=>by simp[aS]
 |x::a,b=>by simp only[ahk,aS,oG a b,ali]
def sS:∀a b,eo (a++b)=(eo a&&eo b)
 |[],b=>by simp[eo]
 |x::a,b=>by simp only[ahk,eo,sS a b,ali]
def oH:∀a b,aH (a++b)=aH a+aH b
 |[],b=>by simp[aH]
 |x::a,b=>by simp only[ahk,aH,oH a b];omega
def Aa{t l}(h:aS l t)i:aS (l.take i) t/\aS (l.drop i) t:=by have e:=oG (t:=t) (l.take i) (l.drop i);rw[aiD,h]at e;simpa using e.symm
def EV{l}(h:eo l)(i):eo (l.take i)/\eo (l.drop i):=by have e:=sS (l.take i) (l.drop i);rw[aiD,h]at e;simpa using e.symm
def Ab(l i):aH (l.take i)+aH (l.drop i)=aH l:=by have e:=oH (l.take i) (l.drop i);rw[aiD]at e;omega
def S4(s:Γ):(fO s).2≠14:=by show(0:Int)≠14;decide
def HE:(br 1).2≠14:=by decide
def S5:(br 5).2≠14:=by decide
def MI{e:Int}(h:e≠14):(br e).2≠14:=h
def afE{c:Prop}[Decidable c]{a b:CR}(Y:a.2≠14)(U:b.2≠14):(if c then a else b).2≠14:=by split<;>assumption
def D9{a b:CR}(Y:a.2≠14)(U:b.2≠14):(cJ a b).2≠14:=by
 unfold cJ
 repeat' split
 all_goals first|exact Y|exact U|exact S5|(show(0:Int)≠14;decide)
section
variable {codes:L (Γ->CR)}
def Y1(D:∀f∈codes,∀s,(f s).2≠14)(i:Nat)(s:Γ):(dQ codes i s).2≠14:=by
 unfold dQ List.getD;cases h:codes[i]? with
 |none=>exact HE
 |some f=>exact D f (acm h) s
def W5(D:∀f∈codes,∀s,(f s).2≠14)(P:Int)(V:Θ)(Y s:Γ):(mJ P V codes Y s).2≠14:=by
 have U:=Y1 D;unfold mJ iK dh jc dY eU kj iL
 repeat' (first|exact S4 _|exact S5|exact HE|exact D9 (U _ _) (U _ _)|exact D9 (U _ _) (S4 _)|exact MI (D9 (U _ _) (S4 _))|exact MI (U _ _)|(show(0:Int)≠14;decide)|refine afE ?_ ?_|split)
end
def Y2{r:CR}(h:r.2≠14):(nH r).2≠14:=by
 unfold nH
 repeat' split
 all_goals first|exact h|(show(0:Int)≠14;decide)|(show(7:Int)≠14;decide)|(show(4:Int)≠14;decide)
mutual
def GG:∀(l:Θ)(o:Γ×Bool),(bU l o).2≠14
 |[],o=>by simp only[bU];decide
 |n::l,o=>by
  have Y:=Y2 (Y3 n o.1);have V:=GG l;simp only[bU]
  repeat' split
  all_goals first|exact HE|exact Y|exact V _
def Y3:∀(n:Nd)(s:Γ),(gf n s).2≠14
 |.mk T N P S Y,s=>by
  have V:=GG Y (s,false);have U:=K2 Y;simp only[gf]
  repeat' split
  all_goals first|exact V|exact HE|exact W5 U _ _ _ _
def K2:∀(l:Θ),∀f∈b8 l,∀s,(f s).2≠14
 |[],f,h,s=>by simp[b8]at h
 |.mk k n p z a::l,f,h,s=>by
  simp only[b8,aim]at h;rcases h with rfl|h
  exact GG a (s,false);exact K2 l f h s
end
def W6(T n p:Int)(s:Δ)(k:Nat)(d:Int):iA T n p s k d≠14:=by unfold iA;omega
mutual
def PW:∀(n:Nd)(d:Int),fG n d≠14
 |.mk T n p s Y,d=>by have V:=W6 T n p s Y.length d;have U:=K3 Y (d+1);simp only[fG];omega
def K3:∀(l:Θ)(d:Int),dJ l d≠14
 |[],d=>by simp only[dJ];decide
 |x::l,d=>by have Y:=PW x d;have V:=K3 l d;simp only[dJ];omega
end
def W7(n:Nd):ey n≠14:=by
 have:=PW n 1;unfold ey
 repeat' split
 all_goals first|exact this|decide
def S6{p s:Ty}{n:Nd}:iY p s n≠14:=by
 have h:∀s,(jR n s).2≠14:=λs=>by
  unfold jR
  repeat' split
  all_goals first|exact MI (W7 _)|exact HE|exact S5|exact GG _ _|(show(7:Int)≠14;decide)
 unfold iY;grind
end Go.Proofs
