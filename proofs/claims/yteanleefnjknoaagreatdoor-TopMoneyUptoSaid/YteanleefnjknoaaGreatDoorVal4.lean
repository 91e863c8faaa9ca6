/- What each and has of package value answer. -/
import Derived.Test.YteanleefnjknoaaGreatDoorVal2
import Derived.Test.YteanleefnjknoaaGreatDoorChk3
import Derived.Test.YteanleefnjknoaaGreatDoorTPure
open Go.IntKind
open Go.Proofs.Tryz
set_option linter.defProp false
set_option maxHeartbeats 0
set_option linter.unusedVariables false
set_option linter.unusedSimpArgs false
set_option maxRecDepth 100000
namespace Go.Proofs
open Go.cK
def Dn(t:Ty):∀(l:L Vl),(!(l.any λx => !bL x t))=aS l t
 |[]=>rfl
 |x::l=>by simp only[aS,<- Dn t l,agR];cases bL x t<;>simp
def upB:L Vl->Bool
 |[]=>true
 |[_]=>true
 |x::y::l=>decide (dR (mD x) (mD y)<0)&&upB (y::l)
def XP:∀l:L Vl,y8 l=upB l
 |[]=>rfl
 |[_]=>rfl
 |x::y::l=>by
  have:=XP (y::l);simp only[upB,<- this];rfl
def qj(t:Ty):Option Vl->L Vl->Bool
 |_,[]=>true
 |none,x::l=>bL x t&&qj t (some x) l
 |some p,x::l=>bL x t&&(decide (dR (mD p) (mD x)<0)&&qj t (some x) l)
def Jd(t:Ty):∀(l:L Vl)(p:Vl),qj t (some p) l=(aS l t&&upB (p::l))
 |[],p=>by simp[qj,aS,upB]
 |x::l,p=>by
  simp only[qj,aS,upB,Jd t l x];cases bL x t<;>cases aS l t<;>cases decide (dR (mD p) (mD x)<0)<;>simp
def Uu(t:Ty)(l:L Vl):qj t none l=(aS l t&&y8 l):=by
 rw[XP];cases l with
 |nil=>rfl
 |cons x l =>
  simp only[qj,aS,Jd];cases bL x t<;>simp
def XQ(t:Ty)(p:Option Vl):qj t p []=true:=by cases p<;>rfl
def xK(t:Ty)(x:Vl)(l:L Vl):qj t none (x::l)=(bL x t&&qj t (some x) l):=rfl
def xL(t:Ty)(p x:Vl)(l:L Vl):qj t (some p) (x::l)=(bL x t&&(decide (dR (mD p) (mD x)<0)&&qj t (some x) l)):=rfl
def Q8(k n a:Int)(s:L UInt8)(J:L Vl)(B:L Ty)(code:L Nd)(t:Ty)(h:k≠bS t\/cz (.mk k n a s J B code)=false\/200<s.length):bL (.mk k n a s J B code) t=false:=by simp only[bL,if_pos h]
def XR(k n a:Int)(s:L UInt8)(J:L Vl)(B:L Ty)(code:L Nd)(t:Ty)(h:¬(k≠bS t\/cz (.mk k n a s J B code)=false\/200<s.length)):bL (.mk k n a s J B code) t =
  (if k=1\/k=6 then decide (n=0/\J.length=0)
  else if k=2 then decide (0<=n/\n<=1/\J.length=0)
  else if k=3 then decide (-bN<=n/\n<=bN/\J.length=0)
  else if k=4\/k=5 then decide (0<=n/\n<=bN/\J.length=0)
  else if k=7 then decide (0<=n/\n<12/\J.length=0)
  else if k=9 then decide (n=0/\J.length<=1)&&aS J (aE t 0)
  else if k=10 then decide (n=0/\J.length<=24)&&aS J (aE t 0)
  else if k=11 then decide (n=0/\J.length=2)&&dL J (au t)
  else if k=12 then decide (0<=n/\n<=1/\J.length=1)&&aS J (aE t n.toNat)
  else if k=13 then decide (n=0/\J.length<=24)&&qj (.mk 11 (au t)) none J
  else if k=14 then dh (aE t 0) (B.getD 0 kX)&&dh (aE t 1) (B.getD 1 kX)
  else if k=15 then decide (1<=n/\n<=bN/\0<=a/\a<12/\J.length=1)&&aS J (aE t 0)
  else if k=8 then decide (0<=n/\n<=bN/\0<=a/\a<12/\J.length=1)&&bB (B.getD 0 kX)&&aS J (B.getD 0 kX)
  else false):=by
 simp only[bL,if_neg h,Uu,ahv]
attribute [local irreducible] AK af bg cn dR jK bL aS dL vA xG dh gJ sH pZ vG fh cz qj upB y8 bB
def GL(t:Ty)(l:L Vl)(Y:∀x∈l,ah 50 [dg t,bH x] (.bool (bL x t)))(p:l.length<=1099511627776) :
  ah 81 [dg t,.sl 7 (aa l)] (.bool (aS l t)):=by
 obtain⟨T,ts⟩:=t;have V:∀x∈l,ah 114 (bH x::[.ip [.int .i64 T,.sl 2 (aA ts)]]) (.bool (!bL x (.mk T ts))):=by
  intro x O;have W:=Y x O;obtain⟨N,C,K,U,E,u,S⟩:=x;refine qn func114 call114 λβ hf=>?_;exact dq
 have hq:=tI l (λx => !bL x (.mk T ts)) 114 [.ip [.int .i64 T,.sl 2 (aA ts)]] V p;rw[<- Dn];refine qn func81 call81 λβ hf=>?_;refine AK.seq ?_;refine AK.region mixed Z ?_
 repeat' (first|refine so ?_)
 refine AK.freeze 2 Z Z Z Z ?_;exact dq
def ab8(k n a:Int)(J:L Vl)(B:L Ty)(t:Ty):Bool :=
  if k=1\/k=6 then decide (n=0/\J.length=0)
  else if k=2 then decide (0<=n/\n<=1/\J.length=0)
  else if k=3 then decide (-bN<=n/\n<=bN/\J.length=0)
  else if k=4\/k=5 then decide (0<=n/\n<=bN/\J.length=0)
  else if k=7 then decide (0<=n/\n<12/\J.length=0)
  else if k=9 then decide (n=0/\J.length<=1)&&aS J (aE t 0)
  else if k=10 then decide (n=0/\J.length<=24)&&aS J (aE t 0)
  else if k=11 then decide (n=0/\J.length=2)&&dL J (au t)
  else if k=12 then decide (0<=n/\n<=1/\J.length=1)&&aS J (aE t n.toNat)
  else if k=13 then decide (n=0/\J.length<=24)&&qj (.mk 11 (au t)) none J
  else if k=14 then dh (aE t 0) (B.getD 0 kX)&&dh (aE t 1) (B.getD 1 kX)
  else if k=15 then decide (1<=n/\n<=bN/\0<=a/\a<12/\J.length=1)&&aS J (aE t 0)
  else if k=8 then decide (0<=n/\n<=bN/\0<=a/\a<12/\J.length=1)&&bB (B.getD 0 kX)&&aS J (B.getD 0 kX)
  else false
def Br(n:Int):vO n=decide (-bN<=n/\n<=bN):=by
 unfold vO;rw[aeV];simp[bN]
def aar{x:Vl}{u V:Ty}(h:bL x (.mk 11 [u,V])=true):∃n a s B code y z,x = .mk 11 n a s [y,z] B code/\bL y u=true/\bL z V=true:=by
 obtain⟨k,n,a,s,J,B,code⟩:=x;obtain⟨h1,h2,Y⟩:=qm h;have p:k=11:=h1;subst p;rw[XR _ _ _ _ _ _ _ _ (by rintro(h|h|h);exact h h1;rw[h2]at h;cases h;omega)]at h;have S:(decide (n=0/\J.length=2)&&dL J [u,V])=true:=h;simp only[aai,aeH]at S;obtain⟨y,z,rfl⟩:=ZM S.1.2;have K:(bL y u&&(bL z V&&dL [] []))=true:=by
  have:=S.2;unfold dL at this;unfold dL at this;exact this
 simp only[aai]at K;exact⟨n,a,s,B,code,y,z,Z,K.1,K.2.1⟩
def Ok{l:L Ty}(h:l.length=1):∃x,l=[x]:=by
 match l,h with
 |[x],_=>exact⟨x,Z⟩
def Ol{k:Int}{m:Nat}(h:arity k=(m:Int)):1<=k/\k<=15:=by
 unfold arity at h;split at h<;>omega
def aev(x:Ty)(l:L Ty)(d:Ty):(x::l).getD 0 d=x:=rfl
def nj{t:Ty}(h:bB t=true):ig t=false:=by
 cases Q:ig t with
 |false=>rfl
 |true =>
  have h1:=Gv t 24 300 Q;rw[I2,h]at h1;cases h1
def pre(l:L Vl)(i:Nat):Option Vl:=if i=0 then none else l[i-1]?
def BP:∀(v:Vl)(t:Ty),ig t=false->aM v<=8589934593->bw t<=8589934593->ah 50 [dg t,bH v] (.bool (bL v t))
 |.mk k n a s J B code,.mk T ts,hb,hv,ht=>by
  simp only[aM]at hv;simp only[bw]at ht;have Lb:=kg J;have V:∀x∈J,∀u,ig u=false->bw u<=8589934593->ah 50 [dg u,bH x] (.bool (bL x u)):=λx O u h1 h2=>BP x u h1 RR h2;have W:=OF (.mk k n a s J B code);by_cases d1:k=T;rotate_left
  ·have e1:(k != T)=true:=by simpa using d1
   rw[Q8 _ _ _ _ _ _ _ _ (.inl d1)];refine qn func50 call50 λβ hf=>?_;exact dq
  subst d1;have e1:(k != k)=false:=by simp
  by_cases d2:cz (.mk k n a s J B code)=false
  ·rw[Q8 _ _ _ _ _ _ _ _ (.inr (.inl d2))];rw[d2]at W;refine qn func50 call50 λβ hf=>?_;exact dq
  have d2':cz (.mk k n a s J B code)=true:=by simpa using d2
  rw[d2']at W;by_cases d3:200<s.length
  ·have e3:decide (((s.length:Nat):Int)>200)=true:=by simp;omega
   rw[Q8 _ _ _ _ _ _ _ _ (.inr (.inr d3))];refine qn func50 call50 λβ hf=>?_;exact dq
  have e3:decide (((s.length:Nat):Int)>200)=false:=by simp;omega
  have Wu:bL (.mk k n a s J B code) (.mk k ts)=ab8 k n a J B (.mk k ts):=XR _ _ _ _ _ _ _ _ (by rintro(h|h|h);exact h rfl;exact d2 h;exact d3 h);rw[Wu];obtain⟨OH,A⟩:=jk hb;simp only[bS,au]at OH A;have S:cz (.mk k n a s J B code)=true:=d2';rw[OE]at S;clear Wu d2 d2' d3;by_cases c:k=1
  ·subst c;show bg _ _ _ _ (.bool (decide (n=0/\J.length=0)));rw[<- aG];refine qn func50 call50 λβ hf=>?_
   repeat' (first|refine sz ?_|refine zc ?_ ?_|(intro h;first|(cases h;done)|rw[h]|skip)|refine uC Z W ?_)
   all_goals
    show(_:CV)=_;clear hf W V S;refine aeb CV.bool ?_;generalize (aa J).length=Ll at *;rw[aeV]
    (try simp_all [bN])<;>(try omega)
  by_cases c:k=6
  ·subst c;show bg _ _ _ _ (.bool (decide (n=0/\J.length=0)));rw[<- aG];refine qn func50 call50 λβ hf=>?_
   repeat' (first|refine sz ?_|refine zc ?_ ?_|(intro h;first|(cases h;done)|rw[h]|skip)|refine uC Z W ?_)
   all_goals
    show(_:CV)=_;clear hf W V S;refine aeb CV.bool ?_;generalize (aa J).length=Ll at *;rw[aeV]
    (try simp_all [bN])<;>(try omega)
  by_cases c:k=2
  ·subst c;show bg _ _ _ _ (.bool (decide (0<=n/\n<=1/\J.length=0)));rw[<- aG];refine qn func50 call50 λβ hf=>?_
   repeat' (first|refine sz ?_|refine zc ?_ ?_|(intro h;first|(cases h;done)|rw[h]|skip)|refine uC Z W ?_)
   all_goals
    show(_:CV)=_;clear hf W V S;refine aeb CV.bool ?_;generalize (aa J).length=Ll at *;rw[aeV]
    (try simp_all [bN])<;>(try omega)
  by_cases c:k=3
  ·subst c;show bg _ _ _ _ (.bool (decide (-bN<=n/\n<=bN/\J.length=0)));have h1:=jY n;rw[Br]at h1;rw[<- aG];refine qn func50 call50 λβ hf=>?_
   repeat' (first|refine sz ?_|refine zc ?_ ?_|(intro h;first|(cases h;done)|rw[h]|skip)|refine uC Z W ?_|refine uC Z h1 ?_)
   all_goals
    show(_:CV)=_;clear hf W V S h1;refine aeb CV.bool ?_;generalize (aa J).length=Ll at *;rw[aeV]
    (try simp_all [bN])<;>(try omega)
  by_cases c:k=4
  ·subst c;show bg _ _ _ _ (.bool (decide (0<=n/\n<=bN/\J.length=0)));have h1:=jY n;rw[Br]at h1;rw[<- aG];refine qn func50 call50 λβ hf=>?_
   repeat' (first|refine sz ?_|refine zc ?_ ?_|(intro h;first|(cases h;done)|rw[h]|skip)|refine uC Z W ?_|refine uC Z h1 ?_)
   all_goals
    show(_:CV)=_;clear hf W V S h1;refine aeb CV.bool ?_;generalize (aa J).length=Ll at *;rw[aeV]
    (try simp_all [bN])<;>(try omega)
  by_cases c:k=5
  ·subst c;show bg _ _ _ _ (.bool (decide (0<=n/\n<=bN/\J.length=0)));have h1:=jY n;rw[Br]at h1;rw[<- aG];refine qn func50 call50 λβ hf=>?_
   repeat' (first|refine sz ?_|refine zc ?_ ?_|(intro h;first|(cases h;done)|rw[h]|skip)|refine uC Z W ?_|refine uC Z h1 ?_)
   all_goals
    show(_:CV)=_;clear hf W V S h1;refine aeb CV.bool ?_;generalize (aa J).length=Ll at *;rw[aeV]
    (try simp_all [bN])<;>(try omega)
  by_cases c:k=7
  ·subst c;show bg _ _ _ _ (.bool (decide (0<=n/\n<12/\J.length=0)));have h1:=sY n;rw[<- aG];refine qn func50 call50 λβ hf=>?_
   repeat' (first|refine sz ?_|refine zc ?_ ?_|(intro h;first|(cases h;done)|rw[h]|skip)|refine uC Z W ?_|refine uC Z h1 ?_)
   all_goals
    show(_:CV)=_;clear hf W V S h1;refine aeb CV.bool ?_;generalize (aa J).length=Ll at *;rw[aeV]
    (try simp_all [bN])<;>(try omega)
  by_cases c:k=9
  ·subst c;show bg _ _ _ _ (.bool (decide (n=0/\J.length<=1)&&aS J (aE (.mk 9 ts) 0)));obtain⟨u,rfl⟩:=Ok (show ts.length=1 by(have:arity 9=1:=by decide);omega);show bg _ _ _ _ (.bool (decide (n=0/\J.length<=1)&&aS J u));have E:ig u=false:=dQ A cS;have P:bw u<=8589934593:=by have:=cL (l:=[u]) (x:=u) cS;omega
   have h1:=GL u J (λx O=>V x O u E P) bn;have g1:[u][0]?=some u:=rfl;obtain⟨U,us⟩:=u;refine qn func50 call50 λβ hf=>?_
   repeat' (first|refine sz ?_|refine zc ?_ ?_|(intro h;first|(cases h;done)|rw[h]|skip)|refine uC Z W ?_|refine uC Z h1 ?_|refine uI Z (0) Z (gA g1) Z ?_)
   all_goals
    show(_:CV)=_;clear hf W V S h1
    (try simp_all [aG])<;>(try omega)
  by_cases c:k=10
  ·subst c;show bg _ _ _ _ (.bool (decide (n=0/\J.length<=24)&&aS J (aE (.mk 10 ts) 0)));obtain⟨u,rfl⟩:=Ok (show ts.length=1 by(have:arity 10=1:=by decide);omega);show bg _ _ _ _ (.bool (decide (n=0/\J.length<=24)&&aS J u));have E:ig u=false:=dQ A cS;have P:bw u<=8589934593:=by have:=cL (l:=[u]) (x:=u) cS;omega
   have h1:=GL u J (λx O=>V x O u E P) bn;have g1:[u][0]?=some u:=rfl;obtain⟨U,us⟩:=u;refine qn func50 call50 λβ hf=>?_
   repeat' (first|refine sz ?_|refine zc ?_ ?_|(intro h;first|(cases h;done)|rw[h]|skip)|refine uC Z W ?_|refine uC Z h1 ?_|refine uI Z (0) Z (gA g1) Z ?_)
   all_goals
    show(_:CV)=_;clear hf W V S h1
    (try simp_all [aG])<;>(try omega)
  by_cases c:k=11
  ·subst c;show bg _ _ _ _ (.bool (decide (n=0/\J.length=2)&&dL J ts));obtain⟨u,Y,rfl⟩:=CM (show ts.length=2 by(have:arity 11=2:=by decide);omega);by_cases G:J.length=2
   ·obtain⟨x,y,rfl⟩:=ZM G;have E:ig u=false:=dQ A cS;have hu':ig Y=false:=dQ A cS;have P:bw u<=8589934593:=by have:=cL (l:=[u,Y]) (x:=u) cS;omega
    have ZO:bw Y<=8589934593:=by have:=cL (l:=[u,Y]) (x:=Y) cS;omega
    have h1:=V x cS u E P;have h2:=V y cS Y hu' ZO;have g1:[u,Y][0]?=some u:=rfl;have C:[u,Y][1]?=some Y:=rfl;have H:[x,y][0]?=some x:=rfl;have g4:[x,y][1]?=some y:=rfl;have q:(decide (n=0/\[x,y].length=2)&&dL [x,y] [u,Y])=(decide (n=0)&&(bL x u&&bL y Y)):=by
     rw[show dL [x,y] [u,Y]=(bL x u&&bL y Y)from by unfold dL;unfold dL;unfold dL;simp];simp
    rw[q];clear q S;generalize bL x u=b1 at h1;generalize bL y Y=b2 at h2;obtain⟨U,us⟩:=u;obtain⟨U',us'⟩:=Y;obtain⟨x1,x2,x3,x4,x5,x6,x7⟩:=x;obtain⟨y1,y2,y3,y4,y5,y6,y7⟩:=y;refine qn func50 call50 λβ hf=>?_
    repeat' (first|refine sz ?_|refine zc ?_ ?_|(intro h;first|(cases h;done)|rw[h]|skip)|refine uC Z W ?_|refine uC Z h1 ?_|refine uC Z h2 ?_|refine uI Z (0) Z (gA g1) Z ?_|refine uI Z (1) Z (gA C) Z ?_|refine uI Z (0) Z (fA H) Z ?_|refine uI Z (1) Z (fA g4) Z ?_)
    all_goals
     show(_:CV)=_;clear hf W V h1 h2;simp_all [aG]
     try (intro GQ;cases b1<;>simp_all)
   ·have q:((((aa J).length:Nat):Int)==2)=false:=by rw[aG];simp;omega
    refine qn func50 call50 λβ hf=>?_
    repeat' (first|refine sz ?_|refine zc ?_ ?_|(intro h;first|(cases h;done)|rw[h]|skip)|refine uC Z W ?_)
    all_goals
     show(_:CV)=_;clear hf W V S;simp_all
  by_cases c:k=12
  ·subst c;show bg _ _ _ _ (.bool (decide (0<=n/\n<=1/\J.length=1)&&aS J (aE (.mk 12 ts) n.toNat)));obtain⟨u,Y,rfl⟩:=CM (show ts.length=2 by(have:arity 12=2:=by decide);omega);by_cases G:J.length=1
   ·obtain⟨x,rfl⟩:=Q7 G;have E:ig u=false:=dQ A cS;have hu':ig Y=false:=dQ A cS;have P:bw u<=8589934593:=by have:=cL (l:=[u,Y]) (x:=u) cS;omega
    have ZO:bw Y<=8589934593:=by have:=cL (l:=[u,Y]) (x:=Y) cS;omega
    have h1:=V x cS u E P;have h2:=V x cS Y hu' ZO;have g1:[u,Y][0]?=some u:=rfl;have C:[u,Y][1]?=some Y:=rfl;have H:[x][0]?=some x:=rfl;have ev:∀w,aS [x] w=bL x w:=λw=>by unfold aS;unfold aS;simp
    rw[ev];clear ev S;by_cases n0:n=0
    ·subst n0;show bg _ _ _ _ (.bool (decide ((0:Int)<=0/\(0:Int)<=1/\[x].length=1)&&bL x u));clear h2;generalize bL x u=b1 at h1;obtain⟨U,us⟩:=u;obtain⟨x1,x2,x3,x4,x5,x6,x7⟩:=x;refine qn func50 call50 λβ hf=>?_
     repeat' (first|refine sz ?_|refine zc ?_ ?_|(intro h;first|(cases h;done)|rw[h]|skip)|refine uC Z W ?_|refine uC Z h1 ?_|refine uI Z (0) Z (gA g1) Z ?_|refine uI Z (0) Z (fA H) Z ?_)
     all_goals
      show(_:CV)=_;clear hf W V h1;simp_all [aG]
    by_cases n1:n=1
    ·subst n1;show bg _ _ _ _ (.bool (decide ((0:Int)<=1/\(1:Int)<=1/\[x].length=1)&&bL x Y));clear h1;generalize bL x Y=b1 at h2;obtain⟨U,us⟩:=Y;obtain⟨x1,x2,x3,x4,x5,x6,x7⟩:=x;refine qn func50 call50 λβ hf=>?_
     repeat' (first|refine sz ?_|refine zc ?_ ?_|(intro h;first|(cases h;done)|rw[h]|skip)|refine uC Z W ?_|refine uC Z h2 ?_|refine uI Z (1) Z (gA C) Z ?_|refine uI Z (0) Z (fA H) Z ?_)
     all_goals
      show(_:CV)=_;clear hf W V h2;simp_all [aG]
    ·rw[show decide (0<=n/\n<=1/\[x].length=1)=false from by simp;omega,aez];by_cases n2:n<0
     ·have q:decide (n>=0)=false:=by simp;omega
      refine qn func50 call50 λβ hf=>?_;exact dq
     ·have q:decide (n>=0)=true:=by simp;omega
      have e6:decide (n<=1)=false:=by simp;omega
      refine qn func50 call50 λβ hf=>?_;exact dq
   ·have q:((((aa J).length:Nat):Int)==1)=false:=by rw[aG];simp;omega
    refine qn func50 call50 λβ hf=>?_
    repeat' (first|refine sz ?_|refine zc ?_ ?_|(intro h;first|(cases h;done)|rw[h]|skip)|refine uC Z W ?_)
    all_goals
     show(_:CV)=_;clear hf W V S;simp_all
  by_cases c:k=13
  ·subst c;show bg _ _ _ _ (.bool (decide (n=0/\J.length<=24)&&qj (.mk 11 ts) none J));by_cases n0:n=0;rotate_left
   ·have q:(n != 0)=true:=by simpa using n0
    rw[show decide (n=0/\J.length<=24)=false from by simp[n0],aez];refine qn func50 call50 λβ hf=>?_;exact dq
   subst n0;by_cases G:J.length<=24;rotate_left
   ·have q:decide ((((aa J).length:Nat):Int)>24)=true:=by rw[aG];simp;omega
    rw[show decide ((0:Int)=0/\J.length<=24)=false from by simp;omega,aez];refine qn func50 call50 λβ hf=>?_;exact dq
   have q:decide ((((aa J).length:Nat):Int)>24)=false:=by rw[aG];simp;omega
   rw[show decide ((0:Int)=0/\J.length<=24)=true from by simp[G],aeR];obtain⟨u,Y,rfl⟩:=CM (show ts.length=2 by(have:arity 13=2:=by decide);omega);have E:ig u=false:=dQ A cS;have hpb:ig (.mk 11 [u,Y])=false:=by
    simp only[ig,aeQ];exact⟨by show decide (arity 11≠2)=false;decide,A⟩
   have hps:bw (.mk 11 [u,Y])<=8589934593:=by simp only[bw];omega
   clear S;refine qn func50 call50 λβ hf=>?_
   repeat' (first|refine sz ?_|refine zc ?_ ?_|(intro h;first|(cases h;done)|rw[h]|skip)|refine uC Z W ?_)
   refine AK.eL (α:=Nat) (λi=>i<=J.length/\qj (.mk 11 [u,Y]) none J=qj (.mk 11 [u,Y]) (pre J i) (J.drop i)/\∀p,pre J i=some p->p∈J/\bL p (.mk 11 [u,Y])=true) (λi=>J.length-i)
    (λi=>[(192,.c (.int .i64 i)),(191,.c (.int .i64 (aa J).length)),(190,.c (.sl 7 (aa J))),(2,.ptr 2 0),(3,.ptr 3 0)])
    (λ_=>[(2,[.c (.int .i64 13),.c (.sl 2 (aA [u,Y]))]),(3,[.c (.int .i64 13),.c (.int .i64 0),.c (.int .i64 a),.c (.str s),.c (.sl 7 (aa J)),.c (.sl 2 (aA B)),.c (.sl 5 (aH code))])]) (λ_=>[]) [2,3] 0
    ⟨bn,Z,λp h=>by simp[pre]at h⟩ ce ⟨Z,Z,trivial⟩ trivial Z Z Z ?_
   rintro i ⟨hi,N,hpre⟩ ih;rcases iq J i hi with ⟨x,O,hm⟩|he
   ·have hc:=wv O;have hq:=V x hm _ hpb hps;have hlt:=bD O;rw[dZ O]at N;have D:pre J (i+1)=some x:=by simp only[pre,Nat.add_one_ne_zero,aft,ahm];exact O
    by_cases Q:bL x (.mk 11 [u,Y])=true;rotate_left
    ·have hxf:bL x (.mk 11 [u,Y])=false:=by simpa using Q
     rw[hxf]at hq;have h0:qj (.mk 11 [u,Y]) none J=false:=by
      rw[N];cases pre J i<;>simp only[xL,xK,hxf,aez]
     rw[h0];clear N h0;obtain⟨x1,x2,x3,x4,x5,x6,x7⟩:=x;have vV:=fA O;exact dq
    ·rw[Q]at hq;obtain⟨x2,x3,x4,x6,x7,M,xv,rfl,hxk,hxv⟩:=aar Q;by_cases i0:i=0
     ·subst i0;have hinv':qj (.mk 11 [u,Y]) none J=qj (.mk 11 [u,Y]) (some (.mk 11 x2 x3 x4 [M,xv] x6 x7)) (J.drop 1):=by
       rw[N];simp only[pre,if_true,xK,Q,aeR]
      repeat' (first|refine sz ?_|refine zc ?_ ?_|(intro h;first|(cases h;done)|rw[h]|skip)|refine uI Z (0) Z (fA O) Z ?_|refine uC Z hq ?_)
      refine AK.again (ih 1 ⟨hlt,?_,?_⟩ bn) ce ⟨Z,Z,trivial⟩ trivial Z Z Z
      ·rw[hinv',D]
      ·intro p W;rw[D]at W;cases W;exact⟨hm,Q⟩
     ·have ei:decide (((i:Nat):Int)>0)=true:=by simp;omega
      obtain⟨p,hpp⟩:∃p,J[i-1]?=some p:=⟨J[i-1]' bn,cS⟩
      have hpi:pre J i=some p:=by simp only[pre,if_neg i0];exact hpp
      obtain⟨hpm,hph⟩:=hpre p hpi;have Lp:i64.wrap (((i:Nat):Int)-1)=((i-1:Nat):Int):=by rw[iy bn bn];omega
      have ag0:=fy hpm;obtain⟨p2,p3,p4,p6,p7,K,pv,rfl,hpk,hpv⟩:=aar hph;have hcq:=oV K M u E hpk hxk (by simp only[aM,aO]at ag0;omega);have I:qj (.mk 11 [u,Y]) none J=(decide (dR K M<0)&&qj (.mk 11 [u,Y]) (some (.mk 11 x2 x3 x4 [M,xv] x6 x7)) (J.drop (i+1))):=by
       rw[N,hpi];rw[xL];rw[Q,aeR];rfl
      have g1:[K,pv][0]?=some K:=rfl;have C:[M,xv][0]?=some M:=rfl;by_cases hcm:dR K M<0
      ·have ec:decide (dR K M>=0)=false:=by simp;omega
       rw[show decide (dR K M<0)=true from by simpa using hcm,aeR]at I;obtain⟨a1,a2,a3,a4,a5,a6,a7⟩:=M;obtain⟨b1,b2,b3,b4,b5,b6,b7⟩:=K
       repeat' (first|refine sz ?_|refine zc ?_ ?_|(intro h;first|(cases h;done)|rw[h]|skip)|refine uI Z (i) Z (fA O) Z ?_|refine uC Z hq ?_|refine af.index hX Z Z Z Z Z Z Z Z Z Z (i-1) Lp (fA hpp) Z ?_|refine uI Z (0) Z (fA g1) Z ?_|refine uI Z (0) Z (fA C) Z ?_|refine uC Z hcq ?_)
       refine AK.again (ih (i+1) ⟨hlt,?_,?_⟩ bn) ⟨.inl (gB bn),.inl Z,.inl Z,.inl Z,.inl Z,trivial⟩ ⟨Z,Z,trivial⟩ trivial Z Z Z
       ·rw[I,D]
       ·intro p W;rw[D]at W;cases W;exact⟨hm,Q⟩
      ·have ec:decide (dR K M>=0)=true:=by simp;omega
       rw[show decide (dR K M<0)=false from by simpa using hcm,aez]at I;rw[I];clear I N;obtain⟨a1,a2,a3,a4,a5,a6,a7⟩:=M;obtain⟨b1,b2,b3,b4,b5,b6,b7⟩:=K
       repeat' (first|refine sz ?_|refine zc ?_ ?_|(intro h;first|(cases h;done)|rw[h]|skip)|refine uI Z (i) Z (fA O) Z ?_|refine uC Z hq ?_|refine af.index hX Z Z Z Z Z Z Z Z Z Z (i-1) Lp (fA hpp) Z ?_|refine uI Z (0) Z (fA g1) Z ?_|refine uI Z (0) Z (fA C) Z ?_|refine uC Z hcq ?_)
       all_goals rfl
   ·have hc:=rV he;have h0:qj (.mk 11 [u,Y]) none J=true:=by
     rw[N,he,aex];exact XQ _ _
    rw[h0];clear ih;exact dq
  by_cases c:k=14
  ·subst c;show bg _ _ _ _ (.bool (dh (aE (.mk 14 ts) 0) (B.getD 0 kX)&&dh (aE (.mk 14 ts) 1) (B.getD 1 kX)));obtain⟨u,Y,rfl⟩:=CM (show ts.length=2 by(have:arity 14=2:=by decide);omega)
   obtain⟨w,w',rfl⟩:=CM (show B.length=2 by
    have h:decide (B.length=2/\a=0/\n=0/\s=[]/\J.length=0)=true:=S
    simp only[aeH]at h;exact h.1)
   show bg _ _ _ _ (.bool (dh u w&&dh Y w'));have P:bw u<=8589934593:=by have:=cL (l:=[u,Y]) (x:=u) cS;omega
   have ZO:bw Y<=8589934593:=by have:=cL (l:=[u,Y]) (x:=Y) cS;omega
   have h1:=gU u w bn;have h2:=gU Y w' bn;have g1:[u,Y][0]?=some u:=rfl;have C:[u,Y][1]?=some Y:=rfl;have H:[w,w'][0]?=some w:=rfl;have g4:[w,w'][1]?=some w':=rfl;generalize dh u w=b1 at h1;generalize dh Y w'=b2 at h2;clear S;obtain⟨u1,u2⟩:=u;obtain⟨u3,u4⟩:=Y;obtain⟨w1,w2⟩:=w;obtain⟨w3,w4⟩:=w';refine qn func50 call50 λβ hf=>?_
   repeat' (first|refine sz ?_|refine zc ?_ ?_|(intro h;first|(cases h;done)|rw[h]|skip)|refine uC Z W ?_|refine uC Z h1 ?_|refine uC Z h2 ?_|refine uI Z (0) Z (gA g1) Z ?_|refine uI Z (1) Z (gA C) Z ?_|refine uI Z (0) Z (gA H) Z ?_|refine uI Z (1) Z (gA g4) Z ?_)
   all_goals
    show(_:CV)=_;clear hf W V h1 h2;simp_all
  by_cases c:k=15
  ·subst c;show bg _ _ _ _ (.bool (decide (1<=n/\n<=bN/\0<=a/\a<12/\J.length=1)&&aS J (aE (.mk 15 ts) 0)));obtain⟨u,rfl⟩:=Ok (show ts.length=1 by(have:arity 15=1:=by decide);omega);have h1:=jY n;rw[Br]at h1;have h2:=sY a;by_cases G:J.length=1
   ·obtain⟨x,rfl⟩:=Q7 G;have E:ig u=false:=dQ A cS;have P:bw u<=8589934593:=by have:=cL (l:=[u]) (x:=u) cS;omega
    have h3:=V x cS u E P;have g1:[u][0]?=some u:=rfl;have H:[x][0]?=some x:=rfl;rw[show aS [x] (aE (.mk 15 [u]) 0)=bL x u from by unfold aS;unfold aS;simp[aE,au]];generalize bL x u=b1 at h3;obtain⟨U,us⟩:=u;obtain⟨x1,x2,x3,x4,x5,x6,x7⟩:=x;refine qn func50 call50 λβ hf=>?_
    repeat' (first|refine sz ?_|refine zc ?_ ?_|(intro h;first|(cases h;done)|rw[h]|skip)|refine uC Z W ?_|refine uC Z h1 ?_|refine uC Z h2 ?_|refine uC Z h3 ?_|refine uI Z (0) Z (gA g1) Z ?_|refine uI Z (0) Z (fA H) Z ?_)
    all_goals
     show(_:CV)=_;clear hf W V h1 h2 h3 S
     (try simp_all [bN,aG])<;>(try omega)
   ·have q:((((aa J).length:Nat):Int)==1)=false:=by rw[aG];simp;omega
    refine qn func50 call50 λβ hf=>?_
    repeat' (first|refine sz ?_|refine zc ?_ ?_|(intro h;first|(cases h;done)|rw[h]|skip)|refine uC Z W ?_|refine uC Z h1 ?_|refine uC Z h2 ?_)
    all_goals
     show(_:CV)=_;clear hf W V h1 h2 S;simp_all
  by_cases c:k=8
  ·subst c;show bg _ _ _ _ (.bool (decide (0<=n/\n<=bN/\0<=a/\a<12/\J.length=1)&&bB (B.getD 0 kX)&&aS J (B.getD 0 kX)))
   obtain⟨u,rfl⟩:=Ok (show B.length=1 by
    have h:decide (B.length=1/\code.length=0/\s=[])=true:=S
    simp only[aeH]at h;exact h.1)
   have h1:=jY n;rw[Br]at h1;have h2:=sY a;by_cases G:J.length=1
   ·obtain⟨x,rfl⟩:=Q7 G;have P:bw u<=8589934593:=by have:=cL (l:=[u]) (x:=u) cS;omega
    have hg:=lE u P;have g1:[u][0]?=some u:=rfl;have H:[x][0]?=some x:=rfl;rw[show aS [x] ([u].getD 0 kX)=bL x u from by unfold aS;unfold aS;simp];rw[aev];by_cases hgd:bB u=true
    ·have h3:=V x cS u (nj hgd) P;rw[hgd]at hg ⊢;generalize bL x u=b1 at h3;obtain⟨U,us⟩:=u;obtain⟨x1,x2,x3,x4,x5,x6,x7⟩:=x;refine qn func50 call50 λβ hf=>?_
     repeat' (first|refine sz ?_|refine zc ?_ ?_|(intro h;first|(cases h;done)|rw[h]|skip)|refine uC Z W ?_|refine uC Z h1 ?_|refine uC Z h2 ?_|refine uC Z hg ?_|refine uC Z h3 ?_|refine uI Z (0) Z (gA g1) Z ?_|refine uI Z (0) Z (fA H) Z ?_)
     all_goals
      show(_:CV)=_;clear hf W V h1 h2 h3 hg S
      (try simp_all [bN,aG])<;>(try omega)
    ·have hgf:bB u=false:=by simpa using hgd
     rw[hgf]at hg ⊢;obtain⟨U,us⟩:=u;refine qn func50 call50 λβ hf=>?_
     repeat' (first|refine sz ?_|refine zc ?_ ?_|(intro h;first|(cases h;done)|rw[h]|skip)|refine uC Z W ?_|refine uC Z h1 ?_|refine uC Z h2 ?_|refine uC Z hg ?_|refine uI Z (0) Z (gA g1) Z ?_)
     all_goals
      show(_:CV)=_;clear hf W V h1 h2 hg S;simp_all [bN]
   ·have q:((((aa J).length:Nat):Int)==1)=false:=by rw[aG];simp;omega
    refine qn func50 call50 λβ hf=>?_
    repeat' (first|refine sz ?_|refine zc ?_ ?_|(intro h;first|(cases h;done)|rw[h]|skip)|refine uC Z W ?_|refine uC Z h1 ?_|refine uC Z h2 ?_)
    all_goals
     show(_:CV)=_;clear hf W V h1 h2 S;simp_all
  exfalso;have:=Ol OH;omega
termination_by v=>SizeOf.sizeOf v
decreasing_by
 have:=aee O;simp at this ⊢;omega
end Go.Proofs
namespace Go.Proofs
open Go.cK
attribute [local irreducible] AK af bg cn
def mZ(p:Int):ah 45 [.int .i64 p] (.bool (sD p)):=by
 refine qn func45 call45 λβ hf=>?_
 repeat' (first|refine sz ?_|refine zc ?_ ?_|(intro h;first|(cases h;done)|rw[h]|skip))
 all_goals
  show(_:CV)=_;clear hf;simp only[agB,agm,aeH,afQ]at *;congr 1;unfold sD
  first
  |(symm;apply aak;omega)
  |(symm;apply aap;omega)
  |(apply decide_eq_decide.2;omega)
def m7{T n p:Int}{s:L UInt8}{J:L Nd}{d e:Int}(h:gp T n p s J.length d=e)(S:e≠0):eR (.mk T n p s J) d=e:=by
 simp only[eR,h,if_neg S]
def vp{T n p:Int}{s:L UInt8}{J:L Nd}{d:Int}(h:gp T n p s J.length d=0):eR (.mk T n p s J) d=dI J (d+1):=by
 simp only[eR,h,if_true]
def vq(d:Int):dI [] d=0:=rfl
def sG(x:Nd)(l:L Nd)(d:Int):dI (x::l) d=if eR x d=0 then dI l d else eR x d:=rfl
attribute [local irreducible] eR dI
def Dp:∀(t:Nd)(d:Int),bM t<=8589934593->0<=d->d<=1099511627776-bM t->ah 32 [aW t,.int .i64 d] (.int .i64 (eR t d))
 |.mk kind n p s args=>by
  intro d ht OL hd
  simp only[bM]at ht hd
  have Lb:=gG args
  have hin:∀x∈args,ah 32 [aW x,.int .i64 (i64.wrap (d+1))] (.int .i64 (eR x (d+1))):=by
   intro x hx
   have:=eX hx
   rw[iy bn bn]
   exact Dp x (d+1) bn bn bn
  by_cases c1:d>24
  ·have e1:decide (d>24)=true:=aak c1
   rw[m7 (e:=4) (by simp only[gp,if_pos c1]) bn]
   refine qn func32 call32 λβ hf=>?_
   repeat' (first|refine sz ?_|refine zc ?_ ?_|(intro h;first|(cases h;done)|rw[h]|skip))
   all_goals rfl
  have e1:decide (d>24)=false:=aap c1
  by_cases c2:kind<0
  ·have e2:decide (kind<0)=true:=aak c2
   rw[m7 (e:=3) (by simp only[gp,if_neg c1,c2,true_or,if_true]) bn]
   refine qn func32 call32 λβ hf=>?_
   exact dq
  have e2:decide (kind<0)=false:=aap c2
  by_cases c3:kind>3
  ·have e3:decide (kind>3)=true:=aak c3
   rw[m7 (e:=3) (by simp only[gp,if_neg c1,c3,true_or,or_true,if_true]) bn]
   refine qn func32 call32 λβ hf=>?_
   exact dq
  have e3:decide (kind>3)=false:=aap c3
  have h4:kind=0\/kind=1\/kind=2\/kind=3:=by omega
  rcases h4 with rfl|rfl|rfl|rfl
  ·skip
   refine qn func32 call32 λβ hf=>?_
   repeat' (first|refine sz ?_|refine zc ?_ ?_|(intro h;first|(cases h;done)|rw[h]|skip)|refine uC Z (mZ p) ?_)
   all_goals first
     |((show(_:CV)=_);clear hf hin;(try simp only[bt]at *);congr 1;symm;refine m7 ?_ bn;unfold gp bN;simp_all<;>(repeat' split)<;>omega)
     |skip
   all_goals
    have hw:gp (0) n p s args.length d=0:=by
     clear hf hin
     try simp only[bt]at *
     unfold gp bN
     simp_all<;>(repeat' split)<;>omega
    have hT:=vp hw
    clear hw
    refine AK.eL (α:=Nat) (λi=>i<=args.length/\dI args (d+1)=dI (args.drop i) (d+1)) (λi=>args.length-i)
     (λi=>[(88,.c (.int .i64 i)),(87,.c (.int .i64 (aH args).length)),(86,.c (.sl 5 (aH args))),(1,.c (.int .i64 d))]) (λ_=>[]) (λ_=>[]) [] 0
     ⟨bn,Z⟩ ce trivial trivial Z Z Z ?_
    rintro i ⟨hi,hinv⟩ ih
    rcases iq args i hi with ⟨x,hx,hm⟩|he
    ·have hc:=mT hx
     have hq:=hin x hm
     rw[dZ hx,sG]at hinv
     obtain⟨x1,x2,x3,x4,x5⟩:=x
     by_cases h0:eR (.mk x1 x2 x3 x4 x5) (d+1)=0
     ·rw[if_pos h0]at hinv
      rw[h0]at hq
      repeat' (first|refine sz ?_|refine zc ?_ ?_|(intro h;first|(cases h;done)|rw[h]|skip)|refine uI Z (i) Z (eO hx) Z ?_|refine uC Z hq ?_)
      exact ady
     ·rw[if_neg h0]at hinv
      have hne:(eR (.mk x1 x2 x3 x4 x5) (d+1) != 0)=true:=by simpa using h0
      repeat' (first|refine sz ?_|refine zc ?_ ?_|(intro h;first|(cases h;done)|rw[h]|skip)|refine uI Z (i) Z (eO hx) Z ?_|refine uC Z hq ?_)
      show(_:CV)=_
      rw[hT,hinv]
    ·have hc:=kr he
     have h0:dI args (d+1)=0:=by rw[hinv,he,aex,vq]
     clear ih
     repeat' (first|refine sz ?_|refine zc ?_ ?_|(intro h;first|(cases h;done)|rw[h]|skip))
     show(_:CV)=_
     rw[hT,h0]
  ·skip
   refine qn func32 call32 λβ hf=>?_
   repeat' (first|refine sz ?_|refine zc ?_ ?_|(intro h;first|(cases h;done)|rw[h]|skip)|refine uC Z (mZ p) ?_)
   all_goals first
     |((show(_:CV)=_);clear hf hin;(try simp only[bt]at *);congr 1;symm;refine m7 ?_ bn;unfold gp bN;simp_all<;>(repeat' split)<;>omega)
     |skip
   all_goals
    have hw:gp (1) n p s args.length d=0:=by
     clear hf hin
     try simp only[bt]at *
     unfold gp bN
     simp_all<;>(repeat' split)<;>omega
    have hT:=vp hw
    clear hw
    refine AK.eL (α:=Nat) (λi=>i<=args.length/\dI args (d+1)=dI (args.drop i) (d+1)) (λi=>args.length-i)
     (λi=>[(88,.c (.int .i64 i)),(87,.c (.int .i64 (aH args).length)),(86,.c (.sl 5 (aH args))),(1,.c (.int .i64 d))]) (λ_=>[]) (λ_=>[]) [] 0
     ⟨bn,Z⟩ ce trivial trivial Z Z Z ?_
    rintro i ⟨hi,hinv⟩ ih
    rcases iq args i hi with ⟨x,hx,hm⟩|he
    ·have hc:=mT hx
     have hq:=hin x hm
     rw[dZ hx,sG]at hinv
     obtain⟨x1,x2,x3,x4,x5⟩:=x
     by_cases h0:eR (.mk x1 x2 x3 x4 x5) (d+1)=0
     ·rw[if_pos h0]at hinv
      rw[h0]at hq
      repeat' (first|refine sz ?_|refine zc ?_ ?_|(intro h;first|(cases h;done)|rw[h]|skip)|refine uI Z (i) Z (eO hx) Z ?_|refine uC Z hq ?_)
      exact ady
     ·rw[if_neg h0]at hinv
      have hne:(eR (.mk x1 x2 x3 x4 x5) (d+1) != 0)=true:=by simpa using h0
      repeat' (first|refine sz ?_|refine zc ?_ ?_|(intro h;first|(cases h;done)|rw[h]|skip)|refine uI Z (i) Z (eO hx) Z ?_|refine uC Z hq ?_)
      show(_:CV)=_
      rw[hT,hinv]
    ·have hc:=kr he
     have h0:dI args (d+1)=0:=by rw[hinv,he,aex,vq]
     clear ih
     repeat' (first|refine sz ?_|refine zc ?_ ?_|(intro h;first|(cases h;done)|rw[h]|skip))
     show(_:CV)=_
     rw[hT,h0]
  ·skip
   refine qn func32 call32 λβ hf=>?_
   repeat' (first|refine sz ?_|refine zc ?_ ?_|(intro h;first|(cases h;done)|rw[h]|skip)|refine uC Z (mZ p) ?_)
   all_goals first
     |((show(_:CV)=_);clear hf hin;(try simp only[bt]at *);congr 1;symm;refine m7 ?_ bn;unfold gp bN;simp_all<;>(repeat' split)<;>omega)
     |skip
   all_goals
    have hw:gp (2) n p s args.length d=0:=by
     clear hf hin
     try simp only[bt]at *
     unfold gp bN
     simp_all<;>(repeat' split)<;>omega
    have hT:=vp hw
    clear hw
    refine AK.eL (α:=Nat) (λi=>i<=args.length/\dI args (d+1)=dI (args.drop i) (d+1)) (λi=>args.length-i)
     (λi=>[(88,.c (.int .i64 i)),(87,.c (.int .i64 (aH args).length)),(86,.c (.sl 5 (aH args))),(1,.c (.int .i64 d))]) (λ_=>[]) (λ_=>[]) [] 0
     ⟨bn,Z⟩ ce trivial trivial Z Z Z ?_
    rintro i ⟨hi,hinv⟩ ih
    rcases iq args i hi with ⟨x,hx,hm⟩|he
    ·have hc:=mT hx
     have hq:=hin x hm
     rw[dZ hx,sG]at hinv
     obtain⟨x1,x2,x3,x4,x5⟩:=x
     by_cases h0:eR (.mk x1 x2 x3 x4 x5) (d+1)=0
     ·rw[if_pos h0]at hinv
      rw[h0]at hq
      repeat' (first|refine sz ?_|refine zc ?_ ?_|(intro h;first|(cases h;done)|rw[h]|skip)|refine uI Z (i) Z (eO hx) Z ?_|refine uC Z hq ?_)
      exact ady
     ·rw[if_neg h0]at hinv
      have hne:(eR (.mk x1 x2 x3 x4 x5) (d+1) != 0)=true:=by simpa using h0
      repeat' (first|refine sz ?_|refine zc ?_ ?_|(intro h;first|(cases h;done)|rw[h]|skip)|refine uI Z (i) Z (eO hx) Z ?_|refine uC Z hq ?_)
      show(_:CV)=_
      rw[hT,hinv]
    ·have hc:=kr he
     have h0:dI args (d+1)=0:=by rw[hinv,he,aex,vq]
     clear ih
     repeat' (first|refine sz ?_|refine zc ?_ ?_|(intro h;first|(cases h;done)|rw[h]|skip))
     show(_:CV)=_
     rw[hT,h0]
  ·skip
   refine qn func32 call32 λβ hf=>?_
   repeat' (first|refine sz ?_|refine zc ?_ ?_|(intro h;first|(cases h;done)|rw[h]|skip)|refine uC Z (mZ p) ?_)
   all_goals first
     |((show(_:CV)=_);clear hf hin;(try simp only[bt]at *);congr 1;symm;refine m7 ?_ bn;unfold gp bN;simp_all<;>(repeat' split)<;>omega)
     |skip
   all_goals
    have hw:gp (3) n p s args.length d=0:=by
     clear hf hin
     try simp only[bt]at *
     unfold gp bN
     simp_all<;>(repeat' split)<;>omega
    have hT:=vp hw
    clear hw
    refine AK.eL (α:=Nat) (λi=>i<=args.length/\dI args (d+1)=dI (args.drop i) (d+1)) (λi=>args.length-i)
     (λi=>[(88,.c (.int .i64 i)),(87,.c (.int .i64 (aH args).length)),(86,.c (.sl 5 (aH args))),(1,.c (.int .i64 d))]) (λ_=>[]) (λ_=>[]) [] 0
     ⟨bn,Z⟩ ce trivial trivial Z Z Z ?_
    rintro i ⟨hi,hinv⟩ ih
    rcases iq args i hi with ⟨x,hx,hm⟩|he
    ·have hc:=mT hx
     have hq:=hin x hm
     rw[dZ hx,sG]at hinv
     obtain⟨x1,x2,x3,x4,x5⟩:=x
     by_cases h0:eR (.mk x1 x2 x3 x4 x5) (d+1)=0
     ·rw[if_pos h0]at hinv
      rw[h0]at hq
      repeat' (first|refine sz ?_|refine zc ?_ ?_|(intro h;first|(cases h;done)|rw[h]|skip)|refine uI Z (i) Z (eO hx) Z ?_|refine uC Z hq ?_)
      exact ady
     ·rw[if_neg h0]at hinv
      have hne:(eR (.mk x1 x2 x3 x4 x5) (d+1) != 0)=true:=by simpa using h0
      repeat' (first|refine sz ?_|refine zc ?_ ?_|(intro h;first|(cases h;done)|rw[h]|skip)|refine uI Z (i) Z (eO hx) Z ?_|refine uC Z hq ?_)
      show(_:CV)=_
      rw[hT,hinv]
    ·have hc:=kr he
     have h0:dI args (d+1)=0:=by rw[hinv,he,aex,vq]
     clear ih
     repeat' (first|refine sz ?_|refine zc ?_ ?_|(intro h;first|(cases h;done)|rw[h]|skip))
     show(_:CV)=_
     rw[hT,h0]
termination_by t=>SizeOf.sizeOf t
decreasing_by
 have:=aee hx
 simp at this ⊢;omega
end Go.Proofs
namespace Go.Proofs
open Go.cK
def ZP(T n p:Int)(s:L UInt8)(J:L Nd):many (.mk T n p s J)=cV J+1:=rfl
def Uv:cV []=0:=rfl
def Q9(x:Nd)(l:L Nd):cV (x::l)=many x+cV l:=rfl
mutual
def Uw:∀t:Nd,many t<=bM t
 |.mk T n p s J=>by have:=Ae J;simp only[many,bM];omega
def Ae:∀l:L Nd,cV l<=aU l
 |[]=>aaj _
 |t::l=>by have:=Uw t;have:=Ae l;simp only[cV,aU];omega
end
def aew{a b:Nat}(h:a+b<1099511627776):some (AV.c (CV.int .i64 (i64.wrap ((a:Int)+(b:Int)))))=some (AV.c (CV.int .i64 ((a+b:Nat):Int))):=by
 rw[iy bn bn];rfl
attribute [local irreducible] AK af bg cn many cV eR dI
def GM:∀(t:Nd),bM t<=8589934593->ah 33 [aW t] (.int .i64 (many t))
 |.mk T n p s J,I=>by
  have Y:=Ae J;simp only[bM]at I;have W:=gG J;have V:∀x∈J,ah 33 [aW x] (.int .i64 (many x)):=λx O=>GM x ach;rw[ZP];refine qn func33 call33 λβ hf=>?_;refine dn ?_;refine AK.eL (α:=Nat×Nat) (λz=>z.1<=J.length/\cV J+1=z.2+cV (J.drop z.1)) (λz=>J.length-z.1)
   (λz=>[(9,.c (.int .i64 z.1)),(8,.c (.int .i64 (aH J).length)),(7,.c (.sl 5 (aH J))),(3,.c (.int .i64 z.2))]) (λ_=>[]) (λ_=>[]) [] (0,1)
   ⟨bn,by rw[agb];omega⟩ ce trivial trivial Z Z Z ?_
  rintro⟨i,m⟩ ⟨K,N⟩ ih;simp only at K N;rcases iq J i K with ⟨x,O,C⟩|S
  ·have A:=mT O;have hq:=V x C;rw[dZ O,Q9]at N;have h2:=bD O;generalize many x=q at hq N;obtain⟨U,P,M,H,E⟩:=x
   repeat' (first|refine pJ ?_|refine zc ?_ ?_|(intro h;first|(cases h;done)|rw[h]|skip)|refine uI Z (i) Z (eO O) Z ?_|refine uC Z hq ?_)
   refine AK.again (ih (i+1,m+q) ⟨h2,by show cV J+1=m+q+cV (J.drop (i+1));omega⟩ fo) ⟨.inl (gB bn),.inl Z,.inl Z,.inl (aew (a:=m) (b:=q) bn),trivial⟩ trivial trivial Z Z Z
  ·have A:=kr S;have Q:cV J+1=m:=by rw[N,S,aex,Uv,aeT]
   clear ih
   repeat' (first|refine pJ ?_|refine zc ?_ ?_|(intro h;first|(cases h;done)|rw[h]|skip))
   show(_:CV)=_;rw[Q]
termination_by t=>SizeOf.sizeOf t
decreasing_by
 have:=aee O;simp at this ⊢;omega
def qL(n:Nd)(B:bM n<=8589934593):ah 21 [aW n] (.int .i64 (dY n)):=by
 have h1:=Dp n 1 B bn bn;have h2:=GM n B;unfold dY;generalize eR n 1=e at h1;generalize many n=m at h2;obtain⟨U,a2,D,P,C⟩:=n;by_cases u:e=0
 ·subst u;by_cases H:300<m
  ·have W:decide ((m:Int)>300)=true:=aak bn;simp only[H,if_true];refine qn func21 call21 λβ hf=>?_;exact dq
  ·have W:decide ((m:Int)>300)=false:=aap bn;simp only[H,aft,if_true];refine qn func21 call21 λβ hf=>?_;exact dq
 ·have I:(e != 0)=true:=by simpa using u
  simp only[u,aft];refine qn func21 call21 λβ hf=>?_;exact dq
end Go.Proofs
namespace Go.Proofs
open Go.cK
attribute [local irreducible] AK af bg cn dR bL vA bB fY dY gQ dh nG
def Tm(t:Ty)(v:Vl)(I:bw t<=8589934593)(M:aM v<=8589934593):ah 38 [dg t,bH v] (.bool (nG t v)):=by
 obtain⟨T,ts⟩:=t;obtain⟨N,C,K,O,U,u,Y⟩:=v;have h1:=lE (.mk T ts) I;cases G:bB (.mk T ts)with
 |false =>
  rw[G]at h1;rw[show nG (.mk T ts) (.mk N C K O U u Y)=false from by unfold nG;rw[G,aez]];refine qn func38 call38 λβ hf=>?_;exact dq
 |true =>
  have h2:=BP (.mk N C K O U u Y) (.mk T ts) (nj G) M I;rw[G]at h1;rw[show nG (.mk T ts) (.mk N C K O U u Y)=bL (.mk N C K O U u Y) (.mk T ts)from by unfold nG;rw[G,aeR]];generalize bL (.mk N C K O U u Y) (.mk T ts)=b at h2;refine qn func38 call38 λβ hf=>?_;exact dq
end Go.Proofs
