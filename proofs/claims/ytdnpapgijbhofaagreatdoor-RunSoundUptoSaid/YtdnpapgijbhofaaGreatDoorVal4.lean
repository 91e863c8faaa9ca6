/- What each and has of package value answer. -/
import Derived.Test.YtdnpapgijbhofaaGreatDoorVal2
import Derived.Test.YtdnpapgijbhofaaGreatDoorChk3
import Derived.Test.YtdnpapgijbhofaaGreatDoorTPure
open Go.IntKind
open Go.Proofs.Tryz
set_option linter.defProp false
set_option maxHeartbeats 0
set_option linter.unusedVariables false
set_option linter.unusedSimpArgs false
set_option maxRecDepth 100000
namespace Go.Proofs
open Go.cM
def Am(t:Ty):∀(l:L Vl),(!(l.any λx => !bE x t))=aP l t
 |[]=>rfl
 |x::l=>by simp only[aP,<- Am t l,abZ];cases bE x t<;>simp
def VU:L Vl->Bool
 |[]=>true
 |[_]=>true
 |x::y::l=>decide (dj (kC x) (kC y)<0)&&VU (y::l)
def RY:∀l:L Vl,vD l=VU l
 |[]=>rfl
 |[_]=>rfl
 |x::y::l=>by
  have:=RY (y::l);simp only[VU,<- this];rfl
def nT(t:Ty):Option Vl->L Vl->Bool
 |_,[]=>true
 |none,x::l=>bE x t&&nT t (some x) l
 |some p,x::l=>bE x t&&(decide (dj (kC p) (kC x)<0)&&nT t (some x) l)
def E0(t:Ty):∀(l:L Vl)(p:Vl),nT t (some p) l=(aP l t&&VU (p::l))
 |[],p=>by simp[nT,aP,VU]
 |x::l,p=>by
  simp only[nT,aP,VU,E0 t l x];cases bE x t<;>cases aP l t<;>cases decide (dj (kC p) (kC x)<0)<;>simp
def ON(t:Ty)(l:L Vl):nT t none l=(aP l t&&vD l):=by
 rw[RY];cases l with
 |nil=>rfl
 |cons x l =>
  simp only[nT,aP,E0];cases bE x t<;>simp
def RZ(t:Ty)(p:Option Vl):nT t p []=true:=by cases p<;>rfl
def ug(t:Ty)(x:Vl)(l:L Vl):nT t none (x::l)=(bE x t&&nT t (some x) l):=rfl
def uh(t:Ty)(p x:Vl)(l:L Vl):nT t (some p) (x::l)=(bE x t&&(decide (dj (kC p) (kC x)<0)&&nT t (some x) l)):=rfl
def LU(k n a:Int)(s:L UInt8)(J:L Vl)(Y:L Ty)(W:L Nd)(t:Ty)(h:k≠bM t\/cq (.mk k n a s J Y W)=false\/200<s.length):bE (.mk k n a s J Y W) t=false:=by simp only[bE,if_pos h]
def R0(k n a:Int)(s:L UInt8)(J:L Vl)(Y:L Ty)(W:L Nd)(t:Ty)(h:¬(k≠bM t\/cq (.mk k n a s J Y W)=false\/200<s.length)):bE (.mk k n a s J Y W) t =
  (if k=1\/k=6 then decide (n=0/\J.length=0)
  else if k=2 then decide (0<=n/\n<=1/\J.length=0)
  else if k=3 then decide (-bL<=n/\n<=bL/\J.length=0)
  else if k=4\/k=5 then decide (0<=n/\n<=bL/\J.length=0)
  else if k=7 then decide (0<=n/\n<12/\J.length=0)
  else if k=9 then decide (n=0/\J.length<=1)&&aP J (aD t 0)
  else if k=10 then decide (n=0/\J.length<=24)&&aP J (aD t 0)
  else if k=11 then decide (n=0/\J.length=2)&&cV J (aq t)
  else if k=12 then decide (0<=n/\n<=1/\J.length=1)&&aP J (aD t n.toNat)
  else if k=13 then decide (n=0/\J.length<=24)&&nT (.mk 11 (aq t)) none J
  else if k=14 then cP (aD t 0) (Y.getD 0 kG)&&cP (aD t 1) (Y.getD 1 kG)
  else if k=15 then decide (1<=n/\n<=bL/\0<=a/\a<12/\J.length=1)&&aP J (aD t 0)
  else if k=8 then decide (0<=n/\n<=bL/\0<=a/\a<12/\J.length=1)&&br (Y.getD 0 kG)&&aP J (Y.getD 0 kG)
  else false):=by
 simp only[bE,if_neg h,ON,acC]
attribute [local irreducible] AK ah aZ cx dj iy bE aP cV Nm GK cP gG Bo xV sG ep cq nT VU vD br
def Db(t:Ty)(l:L Vl)(q:∀x∈l,aj 72 [er t,bO x] (.bool (bE x t)))(Y:l.length<=1099511627776) :
  aj 94 [er t,.sl 7 (aa l)] (.bool (aP l t)):=by
 obtain⟨T,ts⟩:=t;have E:∀x∈l,aj 111 (bO x::[.ip [.int .i64 T,.sl 2 (au ts)]]) (.bool (!bE x (.mk T ts))):=by
  intro x I;have W:=q x I;obtain⟨M,V,J,A,U,D,S⟩:=x;refine qn func111 call111 λβ hf=>?_;exact dq
 have hq:=qA l (λx => !bE x (.mk T ts)) 111 [.ip [.int .i64 T,.sl 2 (au ts)]] E Y;rw[<- Am];refine qn func94 call94 λβ hf=>?_;refine AK.seq ?_;refine AK.region mixed Z ?_
 repeat' (first|refine so ?_)
 refine AK.freeze 2 Z Z Z Z ?_;exact dq
def VV(k n a:Int)(J:L Vl)(Y:L Ty)(t:Ty):Bool :=
  if k=1\/k=6 then decide (n=0/\J.length=0)
  else if k=2 then decide (0<=n/\n<=1/\J.length=0)
  else if k=3 then decide (-bL<=n/\n<=bL/\J.length=0)
  else if k=4\/k=5 then decide (0<=n/\n<=bL/\J.length=0)
  else if k=7 then decide (0<=n/\n<12/\J.length=0)
  else if k=9 then decide (n=0/\J.length<=1)&&aP J (aD t 0)
  else if k=10 then decide (n=0/\J.length<=24)&&aP J (aD t 0)
  else if k=11 then decide (n=0/\J.length=2)&&cV J (aq t)
  else if k=12 then decide (0<=n/\n<=1/\J.length=1)&&aP J (aD t n.toNat)
  else if k=13 then decide (n=0/\J.length<=24)&&nT (.mk 11 (aq t)) none J
  else if k=14 then cP (aD t 0) (Y.getD 0 kG)&&cP (aD t 1) (Y.getD 1 kG)
  else if k=15 then decide (1<=n/\n<=bL/\0<=a/\a<12/\J.length=1)&&aP J (aD t 0)
  else if k=8 then decide (0<=n/\n<=bL/\0<=a/\a<12/\J.length=1)&&br (Y.getD 0 kG)&&aP J (Y.getD 0 kG)
  else false
def yc(n:Int):sJ n=decide (-bL<=n/\n<=bL):=by
 unfold sJ;rw[aaO];simp[bL]
def Uo{x:Vl}{u M:Ty}(h:bE x (.mk 11 [u,M])=true):∃n a s Y W y z,x = .mk 11 n a s [y,z] Y W/\bE y u=true/\bE z M=true:=by
 obtain⟨k,n,a,s,J,Y,W⟩:=x;obtain⟨h1,h2,K⟩:=nU h;have C:k=11:=h1;subst C;rw[R0 _ _ _ _ _ _ _ _ (by rintro(h|h|h);exact h h1;rw[h2]at h;cases h;omega)]at h;have V:(decide (n=0/\J.length=2)&&cV J [u,M])=true:=h;simp only[aal,Z5]at V;obtain⟨y,z,rfl⟩:=TF V.1.2;have U:(bE y u&&(bE z M&&cV [] []))=true:=by
  have:=V.2;unfold cV at this;unfold cV at this;exact this
 simp only[aal]at U;exact⟨n,a,s,Y,W,y,z,Z,U.1,U.2.1⟩
def Jq{l:L Ty}(h:l.length=1):∃x,l=[x]:=by
 match l,h with
 |[x],_=>exact⟨x,Z⟩
def Jr{k:Int}{m:Nat}(h:arity k=(m:Int)):1<=k/\k<=15:=by
 unfold arity at h;split at h<;>omega
def X5(x:Ty)(l:L Ty)(d:Ty):(x::l).getD 0 d=x:=rfl
def lq{t:Ty}(h:br t=true):fV t=false:=by
 cases A:fV t with
 |false=>rfl
 |true =>
  have h1:=CX t 24 300 A;rw[EN,h]at h1;cases h1
def pre(l:L Vl)(i:Nat):Option Vl:=if i=0 then none else l[i-1]?
def yp:∀(v:Vl)(t:Ty),fV t=false->aO v<=8589934593->bw t<=8589934593->aj 72 [er t,bO v] (.bool (bE v t))
 |.mk k n a s J Y W,.mk T ts,hb,hv,ht=>by
  simp only[aO]at hv;simp only[bw]at ht;have JI:=iN J;have E:∀x∈J,∀u,fV u=false->bw u<=8589934593->aj 72 [er u,bO x] (.bool (bE x u)):=λx I u h1 h2=>yp x u h1 Rg h2;have q:=JH (.mk k n a s J Y W);by_cases d1:k=T;rotate_left
  ·have e1:(k != T)=true:=by simpa using d1
   rw[LU _ _ _ _ _ _ _ _ (.inl d1)];refine qn func72 call72 λβ hf=>?_;exact dq
  subst d1;have e1:(k != k)=false:=by simp
  by_cases d2:cq (.mk k n a s J Y W)=false
  ·rw[LU _ _ _ _ _ _ _ _ (.inr (.inl d2))];rw[d2]at q;refine qn func72 call72 λβ hf=>?_;exact dq
  have d2':cq (.mk k n a s J Y W)=true:=by simpa using d2
  rw[d2']at q;by_cases d3:200<s.length
  ·have e3:decide (((s.length:Nat):Int)>200)=true:=by simp;omega
   rw[LU _ _ _ _ _ _ _ _ (.inr (.inr d3))];refine qn func72 call72 λβ hf=>?_;exact dq
  have e3:decide (((s.length:Nat):Int)>200)=false:=by simp;omega
  have Qo:bE (.mk k n a s J Y W) (.mk k ts)=VV k n a J Y (.mk k ts):=R0 _ _ _ _ _ _ _ _ (by rintro(h|h|h);exact h rfl;exact d2 h;exact d3 h);rw[Qo];obtain⟨JJ,K⟩:=gT hb;simp only[bM,aq]at JJ K;have V:cq (.mk k n a s J Y W)=true:=d2';rw[JG]at V;clear Qo d2 d2' d3;by_cases c:k=1
  ·subst c;show aZ _ _ _ _ (.bool (decide (n=0/\J.length=0)));rw[<- aB];refine qn func72 call72 λβ hf=>?_
   repeat' (first|refine sz ?_|refine zc ?_ ?_|(intro h;first|(cases h;done)|rw[h]|skip)|refine uC Z q ?_)
   all_goals
    show(_:CV)=_;clear hf q E V;refine Zb CV.bool ?_;generalize (aa J).length=Ll at *;rw[aaO]
    (try simp_all [bL])<;>(try omega)
  by_cases c:k=6
  ·subst c;show aZ _ _ _ _ (.bool (decide (n=0/\J.length=0)));rw[<- aB];refine qn func72 call72 λβ hf=>?_
   repeat' (first|refine sz ?_|refine zc ?_ ?_|(intro h;first|(cases h;done)|rw[h]|skip)|refine uC Z q ?_)
   all_goals
    show(_:CV)=_;clear hf q E V;refine Zb CV.bool ?_;generalize (aa J).length=Ll at *;rw[aaO]
    (try simp_all [bL])<;>(try omega)
  by_cases c:k=2
  ·subst c;show aZ _ _ _ _ (.bool (decide (0<=n/\n<=1/\J.length=0)));rw[<- aB];refine qn func72 call72 λβ hf=>?_
   repeat' (first|refine sz ?_|refine zc ?_ ?_|(intro h;first|(cases h;done)|rw[h]|skip)|refine uC Z q ?_)
   all_goals
    show(_:CV)=_;clear hf q E V;refine Zb CV.bool ?_;generalize (aa J).length=Ll at *;rw[aaO]
    (try simp_all [bL])<;>(try omega)
  by_cases c:k=3
  ·subst c;show aZ _ _ _ _ (.bool (decide (-bL<=n/\n<=bL/\J.length=0)));have h1:=iE n;rw[yc]at h1;rw[<- aB];refine qn func72 call72 λβ hf=>?_
   repeat' (first|refine sz ?_|refine zc ?_ ?_|(intro h;first|(cases h;done)|rw[h]|skip)|refine uC Z q ?_|refine uC Z h1 ?_)
   all_goals
    show(_:CV)=_;clear hf q E V h1;refine Zb CV.bool ?_;generalize (aa J).length=Ll at *;rw[aaO]
    (try simp_all [bL])<;>(try omega)
  by_cases c:k=4
  ·subst c;show aZ _ _ _ _ (.bool (decide (0<=n/\n<=bL/\J.length=0)));have h1:=iE n;rw[yc]at h1;rw[<- aB];refine qn func72 call72 λβ hf=>?_
   repeat' (first|refine sz ?_|refine zc ?_ ?_|(intro h;first|(cases h;done)|rw[h]|skip)|refine uC Z q ?_|refine uC Z h1 ?_)
   all_goals
    show(_:CV)=_;clear hf q E V h1;refine Zb CV.bool ?_;generalize (aa J).length=Ll at *;rw[aaO]
    (try simp_all [bL])<;>(try omega)
  by_cases c:k=5
  ·subst c;show aZ _ _ _ _ (.bool (decide (0<=n/\n<=bL/\J.length=0)));have h1:=iE n;rw[yc]at h1;rw[<- aB];refine qn func72 call72 λβ hf=>?_
   repeat' (first|refine sz ?_|refine zc ?_ ?_|(intro h;first|(cases h;done)|rw[h]|skip)|refine uC Z q ?_|refine uC Z h1 ?_)
   all_goals
    show(_:CV)=_;clear hf q E V h1;refine Zb CV.bool ?_;generalize (aa J).length=Ll at *;rw[aaO]
    (try simp_all [bL])<;>(try omega)
  by_cases c:k=7
  ·subst c;show aZ _ _ _ _ (.bool (decide (0<=n/\n<12/\J.length=0)));have h1:=qm n;rw[<- aB];refine qn func72 call72 λβ hf=>?_
   repeat' (first|refine sz ?_|refine zc ?_ ?_|(intro h;first|(cases h;done)|rw[h]|skip)|refine uC Z q ?_|refine uC Z h1 ?_)
   all_goals
    show(_:CV)=_;clear hf q E V h1;refine Zb CV.bool ?_;generalize (aa J).length=Ll at *;rw[aaO]
    (try simp_all [bL])<;>(try omega)
  by_cases c:k=9
  ·subst c;show aZ _ _ _ _ (.bool (decide (n=0/\J.length<=1)&&aP J (aD (.mk 9 ts) 0)));obtain⟨u,rfl⟩:=Jq (show ts.length=1 by(have:arity 9=1:=by decide);omega);show aZ _ _ _ _ (.bool (decide (n=0/\J.length<=1)&&aP J u));have H:fV u=false:=di K ek;have O:bw u<=8589934593:=by have:=cA (l:=[u]) (x:=u) ek;omega
   have h1:=Db u J (λx I=>E x I u H O) bn;have g1:[u][0]?=some u:=rfl;obtain⟨U,us⟩:=u;refine qn func72 call72 λβ hf=>?_
   repeat' (first|refine sz ?_|refine zc ?_ ?_|(intro h;first|(cases h;done)|rw[h]|skip)|refine uC Z q ?_|refine uC Z h1 ?_|refine uI Z (0) Z (fB g1) Z ?_)
   all_goals
    show(_:CV)=_;clear hf q E V h1
    (try simp_all [aB])<;>(try omega)
  by_cases c:k=10
  ·subst c;show aZ _ _ _ _ (.bool (decide (n=0/\J.length<=24)&&aP J (aD (.mk 10 ts) 0)));obtain⟨u,rfl⟩:=Jq (show ts.length=1 by(have:arity 10=1:=by decide);omega);show aZ _ _ _ _ (.bool (decide (n=0/\J.length<=24)&&aP J u));have H:fV u=false:=di K ek;have O:bw u<=8589934593:=by have:=cA (l:=[u]) (x:=u) ek;omega
   have h1:=Db u J (λx I=>E x I u H O) bn;have g1:[u][0]?=some u:=rfl;obtain⟨U,us⟩:=u;refine qn func72 call72 λβ hf=>?_
   repeat' (first|refine sz ?_|refine zc ?_ ?_|(intro h;first|(cases h;done)|rw[h]|skip)|refine uC Z q ?_|refine uC Z h1 ?_|refine uI Z (0) Z (fB g1) Z ?_)
   all_goals
    show(_:CV)=_;clear hf q E V h1
    (try simp_all [aB])<;>(try omega)
  by_cases c:k=11
  ·subst c;show aZ _ _ _ _ (.bool (decide (n=0/\J.length=2)&&cV J ts));obtain⟨u,M,rfl⟩:=zF (show ts.length=2 by(have:arity 11=2:=by decide);omega);by_cases B:J.length=2
   ·obtain⟨x,y,rfl⟩:=TF B;have H:fV u=false:=di K ek;have Yr:fV M=false:=di K ek;have O:bw u<=8589934593:=by have:=cA (l:=[u,M]) (x:=u) ek;omega
    have TH:bw M<=8589934593:=by have:=cA (l:=[u,M]) (x:=M) ek;omega
    have h1:=E x ek u H O;have h2:=E y ek M Yr TH;have g1:[u,M][0]?=some u:=rfl;have C:[u,M][1]?=some M:=rfl;have D:[x,y][0]?=some x:=rfl;have g4:[x,y][1]?=some y:=rfl;have P:(decide (n=0/\[x,y].length=2)&&cV [x,y] [u,M])=(decide (n=0)&&(bE x u&&bE y M)):=by
     rw[show cV [x,y] [u,M]=(bE x u&&bE y M)from by unfold cV;unfold cV;unfold cV;simp];simp
    rw[P];clear P V;generalize bE x u=A at h1;generalize bE y M=b2 at h2;obtain⟨U,us⟩:=u;obtain⟨U',us'⟩:=M;obtain⟨x1,x2,x3,x4,x5,x6,x7⟩:=x;obtain⟨y1,y2,y3,y4,y5,y6,y7⟩:=y;refine qn func72 call72 λβ hf=>?_
    repeat' (first|refine sz ?_|refine zc ?_ ?_|(intro h;first|(cases h;done)|rw[h]|skip)|refine uC Z q ?_|refine uC Z h1 ?_|refine uC Z h2 ?_|refine uI Z (0) Z (fB g1) Z ?_|refine uI Z (1) Z (fB C) Z ?_|refine uI Z (0) Z (fm D) Z ?_|refine uI Z (1) Z (fm g4) Z ?_)
    all_goals
     show(_:CV)=_;clear hf q E h1 h2;simp_all [aB]
     try (intro Dg;cases A<;>simp_all)
   ·have P:((((aa J).length:Nat):Int)==2)=false:=by rw[aB];simp;omega
    refine qn func72 call72 λβ hf=>?_
    repeat' (first|refine sz ?_|refine zc ?_ ?_|(intro h;first|(cases h;done)|rw[h]|skip)|refine uC Z q ?_)
    all_goals
     show(_:CV)=_;clear hf q E V;simp_all
  by_cases c:k=12
  ·subst c;show aZ _ _ _ _ (.bool (decide (0<=n/\n<=1/\J.length=1)&&aP J (aD (.mk 12 ts) n.toNat)));obtain⟨u,M,rfl⟩:=zF (show ts.length=2 by(have:arity 12=2:=by decide);omega);by_cases B:J.length=1
   ·obtain⟨x,rfl⟩:=LS B;have H:fV u=false:=di K ek;have Yr:fV M=false:=di K ek;have O:bw u<=8589934593:=by have:=cA (l:=[u,M]) (x:=u) ek;omega
    have TH:bw M<=8589934593:=by have:=cA (l:=[u,M]) (x:=M) ek;omega
    have h1:=E x ek u H O;have h2:=E x ek M Yr TH;have g1:[u,M][0]?=some u:=rfl;have C:[u,M][1]?=some M:=rfl;have D:[x][0]?=some x:=rfl;have ev:∀w,aP [x] w=bE x w:=λw=>by unfold aP;unfold aP;simp
    rw[ev];clear ev V;by_cases n0:n=0
    ·subst n0;show aZ _ _ _ _ (.bool (decide ((0:Int)<=0/\(0:Int)<=1/\[x].length=1)&&bE x u));clear h2;generalize bE x u=A at h1;obtain⟨U,us⟩:=u;obtain⟨x1,x2,x3,x4,x5,x6,x7⟩:=x;refine qn func72 call72 λβ hf=>?_
     repeat' (first|refine sz ?_|refine zc ?_ ?_|(intro h;first|(cases h;done)|rw[h]|skip)|refine uC Z q ?_|refine uC Z h1 ?_|refine uI Z (0) Z (fB g1) Z ?_|refine uI Z (0) Z (fm D) Z ?_)
     all_goals
      show(_:CV)=_;clear hf q E h1;simp_all [aB]
    by_cases n1:n=1
    ·subst n1;show aZ _ _ _ _ (.bool (decide ((0:Int)<=1/\(1:Int)<=1/\[x].length=1)&&bE x M));clear h1;generalize bE x M=A at h2;obtain⟨U,us⟩:=M;obtain⟨x1,x2,x3,x4,x5,x6,x7⟩:=x;refine qn func72 call72 λβ hf=>?_
     repeat' (first|refine sz ?_|refine zc ?_ ?_|(intro h;first|(cases h;done)|rw[h]|skip)|refine uC Z q ?_|refine uC Z h2 ?_|refine uI Z (1) Z (fB C) Z ?_|refine uI Z (0) Z (fm D) Z ?_)
     all_goals
      show(_:CV)=_;clear hf q E h2;simp_all [aB]
    ·rw[show decide (0<=n/\n<=1/\[x].length=1)=false from by simp;omega,aaH];by_cases n2:n<0
     ·have P:decide (n>=0)=false:=by simp;omega
      refine qn func72 call72 λβ hf=>?_;exact dq
     ·have P:decide (n>=0)=true:=by simp;omega
      have e6:decide (n<=1)=false:=by simp;omega
      refine qn func72 call72 λβ hf=>?_;exact dq
   ·have P:((((aa J).length:Nat):Int)==1)=false:=by rw[aB];simp;omega
    refine qn func72 call72 λβ hf=>?_
    repeat' (first|refine sz ?_|refine zc ?_ ?_|(intro h;first|(cases h;done)|rw[h]|skip)|refine uC Z q ?_)
    all_goals
     show(_:CV)=_;clear hf q E V;simp_all
  by_cases c:k=13
  ·subst c;show aZ _ _ _ _ (.bool (decide (n=0/\J.length<=24)&&nT (.mk 11 ts) none J));by_cases n0:n=0;rotate_left
   ·have P:(n != 0)=true:=by simpa using n0
    rw[show decide (n=0/\J.length<=24)=false from by simp[n0],aaH];refine qn func72 call72 λβ hf=>?_;exact dq
   subst n0;by_cases B:J.length<=24;rotate_left
   ·have P:decide ((((aa J).length:Nat):Int)>24)=true:=by rw[aB];simp;omega
    rw[show decide ((0:Int)=0/\J.length<=24)=false from by simp;omega,aaH];refine qn func72 call72 λβ hf=>?_;exact dq
   have P:decide ((((aa J).length:Nat):Int)>24)=false:=by rw[aB];simp;omega
   rw[show decide ((0:Int)=0/\J.length<=24)=true from by simp[B],aaI];obtain⟨u,M,rfl⟩:=zF (show ts.length=2 by(have:arity 13=2:=by decide);omega);have H:fV u=false:=di K ek;have Um:fV (.mk 11 [u,M])=false:=by
    simp only[fV,aaT];exact⟨by show decide (arity 11≠2)=false;decide,K⟩
   have hps:bw (.mk 11 [u,M])<=8589934593:=by simp only[bw];omega
   clear V;refine qn func72 call72 λβ hf=>?_
   repeat' (first|refine sz ?_|refine zc ?_ ?_|(intro h;first|(cases h;done)|rw[h]|skip)|refine uC Z q ?_)
   refine AK.eX (α:=Nat) (λi=>i<=J.length/\nT (.mk 11 [u,M]) none J=nT (.mk 11 [u,M]) (pre J i) (J.drop i)/\∀p,pre J i=some p->p∈J/\bE p (.mk 11 [u,M])=true) (λi=>J.length-i)
    (λi=>[(192,.c (.int .i64 i)),(191,.c (.int .i64 (aa J).length)),(190,.c (.sl 7 (aa J))),(2,.ptr 2 0),(3,.ptr 3 0)])
    (λ_=>[(2,[.c (.int .i64 13),.c (.sl 2 (au [u,M]))]),(3,[.c (.int .i64 13),.c (.int .i64 0),.c (.int .i64 a),.c (.str s),.c (.sl 7 (aa J)),.c (.sl 2 (au Y)),.c (.sl 5 (aG W))])]) (λ_=>[]) [2,3] 0
    ⟨bn,Z,λp h=>by simp[pre]at h⟩ ce ⟨Z,Z,trivial⟩ trivial Z Z Z ?_
   rintro i ⟨hi,S,hpre⟩ ih;rcases gr J i hi with ⟨x,I,hm⟩|he
   ·have hc:=Bn I;have hq:=E x hm _ Um hps;have hlt:=bQ I;rw[eG I]at S;have YK:pre J (i+1)=some x:=by simp only[pre,Nat.add_one_ne_zero,abg,aco];exact I
    by_cases VW:bE x (.mk 11 [u,M])=true;rotate_left
    ·have hxf:bE x (.mk 11 [u,M])=false:=by simpa using VW
     rw[hxf]at hq;have h0:nT (.mk 11 [u,M]) none J=false:=by
      rw[S];cases pre J i<;>simp only[uh,ug,hxf,aaH]
     rw[h0];clear S h0;obtain⟨x1,x2,x3,x4,x5,x6,x7⟩:=x;have sQ:=fm I;exact dq
    ·rw[VW]at hq;obtain⟨x2,x3,x4,x6,x7,Q,xv,rfl,Z1,hxv⟩:=Uo VW;by_cases i0:i=0
     ·subst i0;have hinv':nT (.mk 11 [u,M]) none J=nT (.mk 11 [u,M]) (some (.mk 11 x2 x3 x4 [Q,xv] x6 x7)) (J.drop 1):=by
       rw[S];simp only[pre,if_true,ug,VW,aaI]
      repeat' (first|refine sz ?_|refine zc ?_ ?_|(intro h;first|(cases h;done)|rw[h]|skip)|refine uI Z (0) Z (fm I) Z ?_|refine uC Z hq ?_)
      refine AK.again (ih 1 ⟨hlt,?_,?_⟩ bn) ce ⟨Z,Z,trivial⟩ trivial Z Z Z
      ·rw[hinv',YK]
      ·intro p q;rw[YK]at q;cases q;exact⟨hm,VW⟩
     ·have ei:decide (((i:Nat):Int)>0)=true:=by simp;omega
      obtain⟨p,Wa⟩:∃p,J[i-1]?=some p:=⟨J[i-1]' bn,ek⟩
      have hpi:pre J i=some p:=by simp only[pre,if_neg i0];exact Wa
      obtain⟨Z6,hph⟩:=hpre p hpi;have G3:i64.wrap (((i:Nat):Int)-1)=((i-1:Nat):Int):=by rw[gF bn bn];omega
      have aam:=ee Z6;obtain⟨p2,p3,p4,p6,p7,G,pv,rfl,hpk,hpv⟩:=Uo hph;have X8:=mW G Q u H hpk Z1 (by simp only[aO,aK]at aam;omega);have N:nT (.mk 11 [u,M]) none J=(decide (dj G Q<0)&&nT (.mk 11 [u,M]) (some (.mk 11 x2 x3 x4 [Q,xv] x6 x7)) (J.drop (i+1))):=by
       rw[S,hpi];rw[uh];rw[VW,aaI];rfl
      have g1:[G,pv][0]?=some G:=rfl;have C:[Q,xv][0]?=some Q:=rfl;by_cases YI:dj G Q<0
      ·have ec:decide (dj G Q>=0)=false:=by simp;omega
       rw[show decide (dj G Q<0)=true from by simpa using YI,aaI]at N;obtain⟨a1,a2,a3,a4,a5,a6,a7⟩:=Q;obtain⟨A,b2,b3,b4,b5,b6,b7⟩:=G
       repeat' (first|refine sz ?_|refine zc ?_ ?_|(intro h;first|(cases h;done)|rw[h]|skip)|refine uI Z (i) Z (fm I) Z ?_|refine uC Z hq ?_|refine ah.index hX Z Z Z Z Z Z Z Z Z Z (i-1) G3 (fm Wa) Z ?_|refine uI Z (0) Z (fm g1) Z ?_|refine uI Z (0) Z (fm C) Z ?_|refine uC Z X8 ?_)
       refine AK.again (ih (i+1) ⟨hlt,?_,?_⟩ bn) ⟨.inl (iS bn),.inl Z,.inl Z,.inl Z,.inl Z,trivial⟩ ⟨Z,Z,trivial⟩ trivial Z Z Z
       ·rw[N,YK]
       ·intro p q;rw[YK]at q;cases q;exact⟨hm,VW⟩
      ·have ec:decide (dj G Q>=0)=true:=by simp;omega
       rw[show decide (dj G Q<0)=false from by simpa using YI,aaH]at N;rw[N];clear N S;obtain⟨a1,a2,a3,a4,a5,a6,a7⟩:=Q;obtain⟨A,b2,b3,b4,b5,b6,b7⟩:=G
       repeat' (first|refine sz ?_|refine zc ?_ ?_|(intro h;first|(cases h;done)|rw[h]|skip)|refine uI Z (i) Z (fm I) Z ?_|refine uC Z hq ?_|refine ah.index hX Z Z Z Z Z Z Z Z Z Z (i-1) G3 (fm Wa) Z ?_|refine uI Z (0) Z (fm g1) Z ?_|refine uI Z (0) Z (fm C) Z ?_|refine uC Z X8 ?_)
       all_goals rfl
   ·have hc:=wV he;have h0:nT (.mk 11 [u,M]) none J=true:=by
     rw[S,he,Zx];exact RZ _ _
    rw[h0];clear ih;exact dq
  by_cases c:k=14
  ·subst c;show aZ _ _ _ _ (.bool (cP (aD (.mk 14 ts) 0) (Y.getD 0 kG)&&cP (aD (.mk 14 ts) 1) (Y.getD 1 kG)));obtain⟨u,M,rfl⟩:=zF (show ts.length=2 by(have:arity 14=2:=by decide);omega)
   obtain⟨w,w',rfl⟩:=zF (show Y.length=2 by
    have h:decide (Y.length=2/\a=0/\n=0/\s=[]/\J.length=0)=true:=V
    simp only[Z5]at h;exact h.1)
   show aZ _ _ _ _ (.bool (cP u w&&cP M w'));have O:bw u<=8589934593:=by have:=cA (l:=[u,M]) (x:=u) ek;omega
   have TH:bw M<=8589934593:=by have:=cA (l:=[u,M]) (x:=M) ek;omega
   have h1:=gD u w bn;have h2:=gD M w' bn;have g1:[u,M][0]?=some u:=rfl;have C:[u,M][1]?=some M:=rfl;have D:[w,w'][0]?=some w:=rfl;have g4:[w,w'][1]?=some w':=rfl;generalize cP u w=A at h1;generalize cP M w'=b2 at h2;clear V;obtain⟨u1,u2⟩:=u;obtain⟨u3,u4⟩:=M;obtain⟨w1,w2⟩:=w;obtain⟨w3,w4⟩:=w';refine qn func72 call72 λβ hf=>?_
   repeat' (first|refine sz ?_|refine zc ?_ ?_|(intro h;first|(cases h;done)|rw[h]|skip)|refine uC Z q ?_|refine uC Z h1 ?_|refine uC Z h2 ?_|refine uI Z (0) Z (fB g1) Z ?_|refine uI Z (1) Z (fB C) Z ?_|refine uI Z (0) Z (fB D) Z ?_|refine uI Z (1) Z (fB g4) Z ?_)
   all_goals
    show(_:CV)=_;clear hf q E h1 h2;simp_all
  by_cases c:k=15
  ·subst c;show aZ _ _ _ _ (.bool (decide (1<=n/\n<=bL/\0<=a/\a<12/\J.length=1)&&aP J (aD (.mk 15 ts) 0)));obtain⟨u,rfl⟩:=Jq (show ts.length=1 by(have:arity 15=1:=by decide);omega);have h1:=iE n;rw[yc]at h1;have h2:=qm a;by_cases B:J.length=1
   ·obtain⟨x,rfl⟩:=LS B;have H:fV u=false:=di K ek;have O:bw u<=8589934593:=by have:=cA (l:=[u]) (x:=u) ek;omega
    have h3:=E x ek u H O;have g1:[u][0]?=some u:=rfl;have D:[x][0]?=some x:=rfl;rw[show aP [x] (aD (.mk 15 [u]) 0)=bE x u from by unfold aP;unfold aP;simp[aD,aq]];generalize bE x u=A at h3;obtain⟨U,us⟩:=u;obtain⟨x1,x2,x3,x4,x5,x6,x7⟩:=x;refine qn func72 call72 λβ hf=>?_
    repeat' (first|refine sz ?_|refine zc ?_ ?_|(intro h;first|(cases h;done)|rw[h]|skip)|refine uC Z q ?_|refine uC Z h1 ?_|refine uC Z h2 ?_|refine uC Z h3 ?_|refine uI Z (0) Z (fB g1) Z ?_|refine uI Z (0) Z (fm D) Z ?_)
    all_goals
     show(_:CV)=_;clear hf q E h1 h2 h3 V
     (try simp_all [bL,aB])<;>(try omega)
   ·have P:((((aa J).length:Nat):Int)==1)=false:=by rw[aB];simp;omega
    refine qn func72 call72 λβ hf=>?_
    repeat' (first|refine sz ?_|refine zc ?_ ?_|(intro h;first|(cases h;done)|rw[h]|skip)|refine uC Z q ?_|refine uC Z h1 ?_|refine uC Z h2 ?_)
    all_goals
     show(_:CV)=_;clear hf q E h1 h2 V;simp_all
  by_cases c:k=8
  ·subst c;show aZ _ _ _ _ (.bool (decide (0<=n/\n<=bL/\0<=a/\a<12/\J.length=1)&&br (Y.getD 0 kG)&&aP J (Y.getD 0 kG)))
   obtain⟨u,rfl⟩:=Jq (show Y.length=1 by
    have h:decide (Y.length=1/\W.length=0/\s=[])=true:=V
    simp only[Z5]at h;exact h.1)
   have h1:=iE n;rw[yc]at h1;have h2:=qm a;by_cases B:J.length=1
   ·obtain⟨x,rfl⟩:=LS B;have O:bw u<=8589934593:=by have:=cA (l:=[u]) (x:=u) ek;omega
    have hg:=mu u O;have g1:[u][0]?=some u:=rfl;have D:[x][0]?=some x:=rfl;rw[show aP [x] ([u].getD 0 kG)=bE x u from by unfold aP;unfold aP;simp];rw[X5];by_cases hgd:br u=true
    ·have h3:=E x ek u (lq hgd) O;rw[hgd]at hg ⊢;generalize bE x u=A at h3;obtain⟨U,us⟩:=u;obtain⟨x1,x2,x3,x4,x5,x6,x7⟩:=x;refine qn func72 call72 λβ hf=>?_
     repeat' (first|refine sz ?_|refine zc ?_ ?_|(intro h;first|(cases h;done)|rw[h]|skip)|refine uC Z q ?_|refine uC Z h1 ?_|refine uC Z h2 ?_|refine uC Z hg ?_|refine uC Z h3 ?_|refine uI Z (0) Z (fB g1) Z ?_|refine uI Z (0) Z (fm D) Z ?_)
     all_goals
      show(_:CV)=_;clear hf q E h1 h2 h3 hg V
      (try simp_all [bL,aB])<;>(try omega)
    ·have hgf:br u=false:=by simpa using hgd
     rw[hgf]at hg ⊢;obtain⟨U,us⟩:=u;refine qn func72 call72 λβ hf=>?_
     repeat' (first|refine sz ?_|refine zc ?_ ?_|(intro h;first|(cases h;done)|rw[h]|skip)|refine uC Z q ?_|refine uC Z h1 ?_|refine uC Z h2 ?_|refine uC Z hg ?_|refine uI Z (0) Z (fB g1) Z ?_)
     all_goals
      show(_:CV)=_;clear hf q E h1 h2 hg V;simp_all [bL]
   ·have P:((((aa J).length:Nat):Int)==1)=false:=by rw[aB];simp;omega
    refine qn func72 call72 λβ hf=>?_
    repeat' (first|refine sz ?_|refine zc ?_ ?_|(intro h;first|(cases h;done)|rw[h]|skip)|refine uC Z q ?_|refine uC Z h1 ?_|refine uC Z h2 ?_)
    all_goals
     show(_:CV)=_;clear hf q E h1 h2 V;simp_all
  exfalso;have:=Jr JJ;omega
termination_by v=>SizeOf.sizeOf v
decreasing_by
 have:=Zp I;simp at this ⊢;omega
end Go.Proofs
namespace Go.Proofs
open Go.cM
attribute [local irreducible] AK ah aZ cx
def kY(p:Int):aj 101 [.int .i64 p] (.bool (pW p)):=by
 refine qn func101 call101 λβ hf=>?_
 repeat' (first|refine sz ?_|refine zc ?_ ?_|(intro h;first|(cases h;done)|rw[h]|skip))
 all_goals
  show(_:CV)=_;clear hf;simp only[abO,abE,Z5,abC]at *;congr 1;unfold pW
  first
  |(symm;apply aaw;omega)
  |(symm;apply aax;omega)
  |(apply decide_eq_decide.2;omega)
def kZ{P n p:Int}{s:L UInt8}{J:L Nd}{d e:Int}(h:fT P n p s J.length d=e)(S:e≠0):ef (.mk P n p s J) d=e:=by
 simp only[ef,h,if_neg S]
def sj{P n p:Int}{s:L UInt8}{J:L Nd}{d:Int}(h:fT P n p s J.length d=0):ef (.mk P n p s J) d=cY J (d+1):=by
 simp only[ef,h,if_true]
def sn(d:Int):cY [] d=0:=rfl
def pZ(x:Nd)(l:L Nd)(d:Int):cY (x::l) d=if ef x d=0 then cY l d else ef x d:=rfl
attribute [local irreducible] ef cY
def An:∀(t:Nd)(d:Int),bZ t<=8589934593->0<=d->d<=1099511627776-bZ t->aj 77 [aY t,.int .i64 d] (.int .i64 (ef t d))
 |.mk kind n p s args=>by
  intro d ht JN hd
  simp only[bZ]at ht hd
  have JI:=gu args
  have hin:∀x∈args,aj 77 [aY x,.int .i64 (i64.wrap (d+1))] (.int .i64 (ef x (d+1))):=by
   intro x hx
   have:=eM hx
   rw[gF bn bn]
   exact An x (d+1) bn bn bn
  by_cases c1:d>24
  ·have e1:decide (d>24)=true:=aaw c1
   rw[kZ (e:=4) (by simp only[fT,if_pos c1]) bn]
   refine qn func77 call77 λβ hf=>?_
   repeat' (first|refine sz ?_|refine zc ?_ ?_|(intro h;first|(cases h;done)|rw[h]|skip))
   all_goals rfl
  have e1:decide (d>24)=false:=aax c1
  by_cases c2:kind<0
  ·have e2:decide (kind<0)=true:=aaw c2
   rw[kZ (e:=3) (by simp only[fT,if_neg c1,c2,true_or,if_true]) bn]
   refine qn func77 call77 λβ hf=>?_
   exact dq
  have e2:decide (kind<0)=false:=aax c2
  by_cases c3:kind>3
  ·have e3:decide (kind>3)=true:=aaw c3
   rw[kZ (e:=3) (by simp only[fT,if_neg c1,c3,true_or,or_true,if_true]) bn]
   refine qn func77 call77 λβ hf=>?_
   exact dq
  have e3:decide (kind>3)=false:=aax c3
  have h4:kind=0\/kind=1\/kind=2\/kind=3:=by omega
  rcases h4 with rfl|rfl|rfl|rfl
  ·skip
   refine qn func77 call77 λβ hf=>?_
   repeat' (first|refine sz ?_|refine zc ?_ ?_|(intro h;first|(cases h;done)|rw[h]|skip)|refine uC Z (kY p) ?_)
   all_goals first
     |((show(_:CV)=_);clear hf hin;(try simp only[bq]at *);congr 1;symm;refine kZ ?_ bn;unfold fT bL;simp_all<;>(repeat' split)<;>omega)
     |skip
   all_goals
    have hw:fT (0) n p s args.length d=0:=by
     clear hf hin
     try simp only[bq]at *
     unfold fT bL
     simp_all<;>(repeat' split)<;>omega
    have hT:=sj hw
    clear hw
    refine AK.eX (α:=Nat) (λi=>i<=args.length/\cY args (d+1)=cY (args.drop i) (d+1)) (λi=>args.length-i)
     (λi=>[(88,.c (.int .i64 i)),(87,.c (.int .i64 (aG args).length)),(86,.c (.sl 5 (aG args))),(1,.c (.int .i64 d))]) (λ_=>[]) (λ_=>[]) [] 0
     ⟨bn,Z⟩ ce trivial trivial Z Z Z ?_
    rintro i ⟨hi,hinv⟩ ih
    rcases gr args i hi with ⟨x,hx,hm⟩|he
    ·have hc:=lE hx
     have hq:=hin x hm
     rw[eG hx,pZ]at hinv
     obtain⟨x1,x2,x3,x4,x5⟩:=x
     by_cases h0:ef (.mk x1 x2 x3 x4 x5) (d+1)=0
     ·rw[if_pos h0]at hinv
      rw[h0]at hq
      repeat' (first|refine sz ?_|refine zc ?_ ?_|(intro h;first|(cases h;done)|rw[h]|skip)|refine uI Z (i) Z (eo hx) Z ?_|refine uC Z hq ?_)
      exact Yy
     ·rw[if_neg h0]at hinv
      have hne:(ef (.mk x1 x2 x3 x4 x5) (d+1) != 0)=true:=by simpa using h0
      repeat' (first|refine sz ?_|refine zc ?_ ?_|(intro h;first|(cases h;done)|rw[h]|skip)|refine uI Z (i) Z (eo hx) Z ?_|refine uC Z hq ?_)
      show(_:CV)=_
      rw[hT,hinv]
    ·have hc:=js he
     have h0:cY args (d+1)=0:=by rw[hinv,he,Zx,sn]
     clear ih
     repeat' (first|refine sz ?_|refine zc ?_ ?_|(intro h;first|(cases h;done)|rw[h]|skip))
     show(_:CV)=_
     rw[hT,h0]
  ·skip
   refine qn func77 call77 λβ hf=>?_
   repeat' (first|refine sz ?_|refine zc ?_ ?_|(intro h;first|(cases h;done)|rw[h]|skip)|refine uC Z (kY p) ?_)
   all_goals first
     |((show(_:CV)=_);clear hf hin;(try simp only[bq]at *);congr 1;symm;refine kZ ?_ bn;unfold fT bL;simp_all<;>(repeat' split)<;>omega)
     |skip
   all_goals
    have hw:fT (1) n p s args.length d=0:=by
     clear hf hin
     try simp only[bq]at *
     unfold fT bL
     simp_all<;>(repeat' split)<;>omega
    have hT:=sj hw
    clear hw
    refine AK.eX (α:=Nat) (λi=>i<=args.length/\cY args (d+1)=cY (args.drop i) (d+1)) (λi=>args.length-i)
     (λi=>[(88,.c (.int .i64 i)),(87,.c (.int .i64 (aG args).length)),(86,.c (.sl 5 (aG args))),(1,.c (.int .i64 d))]) (λ_=>[]) (λ_=>[]) [] 0
     ⟨bn,Z⟩ ce trivial trivial Z Z Z ?_
    rintro i ⟨hi,hinv⟩ ih
    rcases gr args i hi with ⟨x,hx,hm⟩|he
    ·have hc:=lE hx
     have hq:=hin x hm
     rw[eG hx,pZ]at hinv
     obtain⟨x1,x2,x3,x4,x5⟩:=x
     by_cases h0:ef (.mk x1 x2 x3 x4 x5) (d+1)=0
     ·rw[if_pos h0]at hinv
      rw[h0]at hq
      repeat' (first|refine sz ?_|refine zc ?_ ?_|(intro h;first|(cases h;done)|rw[h]|skip)|refine uI Z (i) Z (eo hx) Z ?_|refine uC Z hq ?_)
      exact Yy
     ·rw[if_neg h0]at hinv
      have hne:(ef (.mk x1 x2 x3 x4 x5) (d+1) != 0)=true:=by simpa using h0
      repeat' (first|refine sz ?_|refine zc ?_ ?_|(intro h;first|(cases h;done)|rw[h]|skip)|refine uI Z (i) Z (eo hx) Z ?_|refine uC Z hq ?_)
      show(_:CV)=_
      rw[hT,hinv]
    ·have hc:=js he
     have h0:cY args (d+1)=0:=by rw[hinv,he,Zx,sn]
     clear ih
     repeat' (first|refine sz ?_|refine zc ?_ ?_|(intro h;first|(cases h;done)|rw[h]|skip))
     show(_:CV)=_
     rw[hT,h0]
  ·skip
   refine qn func77 call77 λβ hf=>?_
   repeat' (first|refine sz ?_|refine zc ?_ ?_|(intro h;first|(cases h;done)|rw[h]|skip)|refine uC Z (kY p) ?_)
   all_goals first
     |((show(_:CV)=_);clear hf hin;(try simp only[bq]at *);congr 1;symm;refine kZ ?_ bn;unfold fT bL;simp_all<;>(repeat' split)<;>omega)
     |skip
   all_goals
    have hw:fT (2) n p s args.length d=0:=by
     clear hf hin
     try simp only[bq]at *
     unfold fT bL
     simp_all<;>(repeat' split)<;>omega
    have hT:=sj hw
    clear hw
    refine AK.eX (α:=Nat) (λi=>i<=args.length/\cY args (d+1)=cY (args.drop i) (d+1)) (λi=>args.length-i)
     (λi=>[(88,.c (.int .i64 i)),(87,.c (.int .i64 (aG args).length)),(86,.c (.sl 5 (aG args))),(1,.c (.int .i64 d))]) (λ_=>[]) (λ_=>[]) [] 0
     ⟨bn,Z⟩ ce trivial trivial Z Z Z ?_
    rintro i ⟨hi,hinv⟩ ih
    rcases gr args i hi with ⟨x,hx,hm⟩|he
    ·have hc:=lE hx
     have hq:=hin x hm
     rw[eG hx,pZ]at hinv
     obtain⟨x1,x2,x3,x4,x5⟩:=x
     by_cases h0:ef (.mk x1 x2 x3 x4 x5) (d+1)=0
     ·rw[if_pos h0]at hinv
      rw[h0]at hq
      repeat' (first|refine sz ?_|refine zc ?_ ?_|(intro h;first|(cases h;done)|rw[h]|skip)|refine uI Z (i) Z (eo hx) Z ?_|refine uC Z hq ?_)
      exact Yy
     ·rw[if_neg h0]at hinv
      have hne:(ef (.mk x1 x2 x3 x4 x5) (d+1) != 0)=true:=by simpa using h0
      repeat' (first|refine sz ?_|refine zc ?_ ?_|(intro h;first|(cases h;done)|rw[h]|skip)|refine uI Z (i) Z (eo hx) Z ?_|refine uC Z hq ?_)
      show(_:CV)=_
      rw[hT,hinv]
    ·have hc:=js he
     have h0:cY args (d+1)=0:=by rw[hinv,he,Zx,sn]
     clear ih
     repeat' (first|refine sz ?_|refine zc ?_ ?_|(intro h;first|(cases h;done)|rw[h]|skip))
     show(_:CV)=_
     rw[hT,h0]
  ·skip
   refine qn func77 call77 λβ hf=>?_
   repeat' (first|refine sz ?_|refine zc ?_ ?_|(intro h;first|(cases h;done)|rw[h]|skip)|refine uC Z (kY p) ?_)
   all_goals first
     |((show(_:CV)=_);clear hf hin;(try simp only[bq]at *);congr 1;symm;refine kZ ?_ bn;unfold fT bL;simp_all<;>(repeat' split)<;>omega)
     |skip
   all_goals
    have hw:fT (3) n p s args.length d=0:=by
     clear hf hin
     try simp only[bq]at *
     unfold fT bL
     simp_all<;>(repeat' split)<;>omega
    have hT:=sj hw
    clear hw
    refine AK.eX (α:=Nat) (λi=>i<=args.length/\cY args (d+1)=cY (args.drop i) (d+1)) (λi=>args.length-i)
     (λi=>[(88,.c (.int .i64 i)),(87,.c (.int .i64 (aG args).length)),(86,.c (.sl 5 (aG args))),(1,.c (.int .i64 d))]) (λ_=>[]) (λ_=>[]) [] 0
     ⟨bn,Z⟩ ce trivial trivial Z Z Z ?_
    rintro i ⟨hi,hinv⟩ ih
    rcases gr args i hi with ⟨x,hx,hm⟩|he
    ·have hc:=lE hx
     have hq:=hin x hm
     rw[eG hx,pZ]at hinv
     obtain⟨x1,x2,x3,x4,x5⟩:=x
     by_cases h0:ef (.mk x1 x2 x3 x4 x5) (d+1)=0
     ·rw[if_pos h0]at hinv
      rw[h0]at hq
      repeat' (first|refine sz ?_|refine zc ?_ ?_|(intro h;first|(cases h;done)|rw[h]|skip)|refine uI Z (i) Z (eo hx) Z ?_|refine uC Z hq ?_)
      exact Yy
     ·rw[if_neg h0]at hinv
      have hne:(ef (.mk x1 x2 x3 x4 x5) (d+1) != 0)=true:=by simpa using h0
      repeat' (first|refine sz ?_|refine zc ?_ ?_|(intro h;first|(cases h;done)|rw[h]|skip)|refine uI Z (i) Z (eo hx) Z ?_|refine uC Z hq ?_)
      show(_:CV)=_
      rw[hT,hinv]
    ·have hc:=js he
     have h0:cY args (d+1)=0:=by rw[hinv,he,Zx,sn]
     clear ih
     repeat' (first|refine sz ?_|refine zc ?_ ?_|(intro h;first|(cases h;done)|rw[h]|skip))
     show(_:CV)=_
     rw[hT,h0]
termination_by t=>SizeOf.sizeOf t
decreasing_by
 have:=Zp hx
 simp at this ⊢;omega
end Go.Proofs
namespace Go.Proofs
open Go.cM
def TJ(P n p:Int)(s:L UInt8)(J:L Nd):many (.mk P n p s J)=cF J+1:=rfl
def OO:cF []=0:=rfl
def LW(x:Nd)(l:L Nd):cF (x::l)=many x+cF l:=rfl
mutual
def OP:∀t:Nd,many t<=bZ t
 |.mk P n p s J=>by have:=wJ J;simp only[many,bZ];omega
def wJ:∀l:L Nd,cF l<=aS l
 |[]=>aav _
 |t::l=>by have:=OP t;have:=wJ l;simp only[cF,aS];omega
end
def X6{a b:Nat}(h:a+b<1099511627776):some (AV.c (CV.int .i64 (i64.wrap ((a:Int)+(b:Int)))))=some (AV.c (CV.int .i64 ((a+b:Nat):Int))):=by
 rw[gF bn bn];rfl
attribute [local irreducible] AK ah aZ cx many cF ef cY
def Dc:∀(t:Nd),bZ t<=8589934593->aj 78 [aY t] (.int .i64 (many t))
 |.mk P n p s J,M=>by
  have W:=wJ J;simp only[bZ]at M;have U:=gu J;have E:∀x∈J,aj 78 [aY x] (.int .i64 (many x)):=λx I=>Dc x (by have:=eM I;omega);rw[TJ];refine qn func78 call78 λβ hf=>?_;refine dn ?_;refine AK.eX (α:=Nat×Nat) (λz=>z.1<=J.length/\cF J+1=z.2+cF (J.drop z.1)) (λz=>J.length-z.1)
   (λz=>[(9,.c (.int .i64 z.1)),(8,.c (.int .i64 (aG J).length)),(7,.c (.sl 5 (aG J))),(3,.c (.int .i64 z.2))]) (λ_=>[]) (λ_=>[]) [] (0,1)
   ⟨bn,by rw[abx];omega⟩ ce trivial trivial Z Z Z ?_
  rintro⟨i,m⟩ ⟨K,Y⟩ ih;simp only at K Y;rcases gr J i K with ⟨x,I,V⟩|S
  ·have A:=lE I;have hq:=E x V;rw[eG I,LW]at Y;have h2:=bQ I;generalize many x=q at hq Y;obtain⟨T,Q,D,O,N⟩:=x
   repeat' (first|refine pe ?_|refine zc ?_ ?_|(intro h;first|(cases h;done)|rw[h]|skip)|refine uI Z (i) Z (eo I) Z ?_|refine uC Z hq ?_)
   refine AK.again (ih (i+1,m+q) ⟨h2,by show cF J+1=m+q+cF (J.drop (i+1));omega⟩ fk) ⟨.inl (iS bn),.inl Z,.inl Z,.inl (X6 (a:=m) (b:=q) bn),trivial⟩ trivial trivial Z Z Z
  ·have A:=js S;have H:cF J+1=m:=by rw[Y,S,Zx,OO,aaL]
   clear ih
   repeat' (first|refine pe ?_|refine zc ?_ ?_|(intro h;first|(cases h;done)|rw[h]|skip))
   show(_:CV)=_;rw[H]
termination_by t=>SizeOf.sizeOf t
decreasing_by
 have:=Zp I;simp at this ⊢;omega
def oB(n:Nd)(E:bZ n<=8589934593):aj 57 [aY n] (.int .i64 (dD n)):=by
 have h1:=An n 1 E bn bn;have h2:=Dc n E;unfold dD;generalize ef n 1=e at h1;generalize many n=m at h2;obtain⟨W,G,q,A,H⟩:=n;by_cases Y:e=0
 ·subst Y;by_cases C:300<m
  ·have Q:decide ((m:Int)>300)=true:=aaw bn;simp only[C,if_true];refine qn func57 call57 λβ hf=>?_;exact dq
  ·have Q:decide ((m:Int)>300)=false:=aax bn;simp only[C,abg,if_true];refine qn func57 call57 λβ hf=>?_;exact dq
 ·have I:(e != 0)=true:=by simpa using Y
  simp only[Y,abg];refine qn func57 call57 λβ hf=>?_;exact dq
end Go.Proofs
namespace Go.Proofs
open Go.cM
attribute [local irreducible] AK ah aZ cx dj bE Nm br fq dD kK cP oA
def NC(t:Ty)(v:Vl)(V:bw t<=8589934593)(B:aO v<=8589934593):aj 52 [er t,bO v] (.bool (oA t v)):=by
 obtain⟨T,ts⟩:=t;obtain⟨I,Y,J,A,W,D,M⟩:=v;have h1:=mu (.mk T ts) V;cases p:br (.mk T ts)with
 |false =>
  rw[p]at h1;rw[show oA (.mk T ts) (.mk I Y J A W D M)=false from by unfold oA;rw[p,aaH]];refine qn func52 call52 λβ hf=>?_;exact dq
 |true =>
  have h2:=yp (.mk I Y J A W D M) (.mk T ts) (lq p) B V;rw[p]at h1;rw[show oA (.mk T ts) (.mk I Y J A W D M)=bE (.mk I Y J A W D M) (.mk T ts)from by unfold oA;rw[p,aaI]];generalize bE (.mk I Y J A W D M) (.mk T ts)=b at h2;refine qn func52 call52 λβ hf=>?_;exact dq
end Go.Proofs
