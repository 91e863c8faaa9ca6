/- What each and has of package value answer. -/
import Derived.Test.YtlohbilpimjmmaaGreatDoorVal2
set_option maxHeartbeats 0
set_option linter.unusedVariables false
set_option linter.unusedSimpArgs false
set_option maxRecDepth 100000
namespace Go.Proofs
open Go.cu
theorem BB (t:Ty):∀(l:List Vl),(!(l.any fun x => !bL x t))=aR l t
 | []=>rfl
 | x::l=>by simp only[aR,<- BB t l,List.any_cons];cases bL x t<;>simp
def X1:List Vl->Bool
 | []=>true
 | [_]=>true
 | x::y::l=>decide (dA (lB x) (lB y)<0)&&X1 (y::l)
theorem TU:∀l:List Vl,w9 l=X1 l
 | []=>rfl
 | [_]=>rfl
 | x::y::l=>by
  have:=TU (y::l);simp only[X1,<- this];rfl
def oV (t:Ty):Option Vl->List Vl->Bool
 | _,[]=>true
 | none,x::l=>bL x t&&oV t (some x) l
 | some p,x::l=>bL x t&&(decide (dA (lB p) (lB x)<0)&&oV t (some x) l)
theorem Gu (t:Ty):∀(l:List Vl) (p:Vl),oV t (some p) l=(aR l t&&X1 (p::l))
 | [],p=>by simp[oV,aR,X1]
 | x::l,p=>by
  simp only[oV,aR,X1,Gu t l x];cases bL x t<;>cases aR l t<;>cases decide (dA (lB p) (lB x)<0)<;>simp
theorem QH (t:Ty) (l:List Vl):oV t none l=(aR l t&&w9 l):=by
 rw[TU];cases l with
 | nil=>rfl
 | cons x l =>
  simp only[oV,aR,Gu];cases bL x t<;>simp
theorem TV (t:Ty) (p:Option Vl):oV t p []=true:=by cases p<;>rfl
theorem vG (t:Ty) (x:Vl) (l:List Vl):oV t none (x::l)=(bL x t&&oV t (some x) l):=rfl
theorem vH (t:Ty) (p x:Vl) (l:List Vl):oV t (some p) (x::l)=(bL x t&&(decide (dA (lB p) (lB x)<0)&&oV t (some x) l)):=rfl
theorem NJ (k n a:Int) (s:List UInt8) (args:List Vl) (H:List Ty) (B:List Nd) (t:Ty) (h:k≠bS t\/cB (.mk k n a s args H B)=false\/200<s.length):bL (.mk k n a s args H B) t=false:=by simp only[bL,if_pos h]
theorem TW (k n a:Int) (s:List UInt8) (args:List Vl) (H:List Ty) (B:List Nd) (t:Ty) (h:¬(k≠bS t\/cB (.mk k n a s args H B)=false\/200<s.length)):bL (.mk k n a s args H B) t =
  (if k=1\/k=6 then decide (n=0/\args.length=0)
  else if k=2 then decide (0<=n/\n<=1/\args.length=0)
  else if k=3 then decide (-bM<=n/\n<=bM/\args.length=0)
  else if k=4\/k=5 then decide (0<=n/\n<=bM/\args.length=0)
  else if k=7 then decide (0<=n/\n<12/\args.length=0)
  else if k=9 then decide (n=0/\args.length<=1)&&aR args (aD t 0)
  else if k=10 then decide (n=0/\args.length<=24)&&aR args (aD t 0)
  else if k=11 then decide (n=0/\args.length=2)&&cX args (au t)
  else if k=12 then decide (0<=n/\n<=1/\args.length=1)&&aR args (aD t n.toNat)
  else if k=13 then decide (n=0/\args.length<=24)&&oV (.mk 11 (au t)) none args
  else if k=14 then cP (aD t 0) (H.getD 0 lF)&&cP (aD t 1) (H.getD 1 lF)
  else if k=15 then decide (1<=n/\n<=bM/\0<=a/\a<12/\args.length=1)&&aR args (aD t 0)
  else if k=8 then decide (0<=n/\n<=bM/\0<=a/\a<12/\args.length=1)&&bA (H.getD 0 lF)&&aR args (H.getD 0 lF)
  else false):=by
 simp only[bL,if_neg h,QH,Bool.and_assoc]
attribute [local irreducible] AK ai bw bz dA iW bL aR cX oK gJ cP gN oC jU tT eB cB oV X1 w9 bA
theorem Et (t:Ty) (l:List Vl) (A:∀x∈l,ah 49 [eC t,bP x] (.bool (bL x t))) (p:l.length<=1099511627776) :
  ah 75 [eC t,.sl 7 (aa l)] (.bool (aR l t)):=by
 obtain⟨T,ts⟩:=t;have M:∀x∈l,ah 103 (bP x::[.ip [.int .i64 T,.sl 2 (aE ts)]]) (.bool (!bL x (.mk T ts))):=by
  intro x O;have Y:=A x O;obtain⟨W,P,U,H,u,Q,N⟩:=x;refine qn Tryz.func103 Tryz.call103 fun β hf=>?_;exact dq
 have hq:=sB l (fun x => !bL x (.mk T ts)) 103 [.ip [.int .i64 T,.sl 2 (aE ts)]] M p;rw[<- BB];refine qn Tryz.func75 Tryz.call75 fun β hf=>?_;refine AK.seq ?_;refine AK.region Tryz.mixed rfl ?_
 repeat' (first|refine so ?_)
 refine AK.freeze 2 rfl rfl rfl rfl ?_;exact dq
def X2 (k n a:Int) (args:List Vl) (H:List Ty) (t:Ty):Bool :=
  if k=1\/k=6 then decide (n=0/\args.length=0)
  else if k=2 then decide (0<=n/\n<=1/\args.length=0)
  else if k=3 then decide (-bM<=n/\n<=bM/\args.length=0)
  else if k=4\/k=5 then decide (0<=n/\n<=bM/\args.length=0)
  else if k=7 then decide (0<=n/\n<12/\args.length=0)
  else if k=9 then decide (n=0/\args.length<=1)&&aR args (aD t 0)
  else if k=10 then decide (n=0/\args.length<=24)&&aR args (aD t 0)
  else if k=11 then decide (n=0/\args.length=2)&&cX args (au t)
  else if k=12 then decide (0<=n/\n<=1/\args.length=1)&&aR args (aD t n.toNat)
  else if k=13 then decide (n=0/\args.length<=24)&&oV (.mk 11 (au t)) none args
  else if k=14 then cP (aD t 0) (H.getD 0 lF)&&cP (aD t 1) (H.getD 1 lF)
  else if k=15 then decide (1<=n/\n<=bM/\0<=a/\a<12/\args.length=1)&&aR args (aD t 0)
  else if k=8 then decide (0<=n/\n<=bM/\0<=a/\a<12/\args.length=1)&&bA (H.getD 0 lF)&&aR args (H.getD 0 lF)
  else false
theorem zF (n:Int):tY n=decide (-bM<=n/\n<=bM):=by
 unfold tY;rw[Bool.eq_iff_iff];simp[bM]
theorem Wz {x:Vl} {u M:Ty} (h:bL x (.mk 11 [u,M])=true):∃n a s H B y z,x = .mk 11 n a s [y,z] H B/\bL y u=true/\bL z M=true:=by
 obtain⟨k,n,a,s,args,H,B⟩:=x;obtain⟨h1,h2,V⟩:=oW h;have J:k=11:=h1;subst J;rw[TW _ _ _ _ _ _ _ _ (by rintro(h|h|h);exact h h1;rw[h2]at h;cases h;omega)]at h;have D:(decide (n=0/\args.length=2)&&cX args [u,M])=true:=h;simp only[aaj,decide_eq_true_eq]at D;obtain⟨y,z,rfl⟩:=VI D.1.2;have q:(bL y u&&(bL z M&&cX [] []))=true:=by
  have:=D.2;unfold cX at this;unfold cX at this;exact this
 simp only[aaj]at q;exact⟨n,a,s,H,B,y,z,rfl,q.1,q.2.1⟩
theorem Le {l:List Ty} (h:l.length=1):∃x,l=[x]:=by
 match l,h with
 | [x],_=>exact⟨x,rfl⟩
theorem Lf {k:Int} {m:Nat} (h:arity k=(m:Int)):1<=k/\k<=15:=by
 unfold arity at h;split at h<;>omega
theorem aaq (x:Ty) (l:List Ty) (d:Ty):(x::l).getD 0 d=x:=rfl
theorem mb {t:Ty} (h:bA t=true):gq t=false:=by
 cases p:gq t with
 | false=>rfl
 | true =>
  have h1:=Cy t 24 300 p;rw[Fg,h]at h1;cases h1
def pre (l:List Vl) (i:Nat):Option Vl:=if i=0 then none else l[i-1]?
theorem zQ:∀(v:Vl) (t:Ty),gq t=false->aM v<=8589934593->bC t<=8589934593->ah 49 [eC t,bP v] (.bool (bL v t))
 | .mk k n a s args H B,.mk T ts,hb,hv,ht=>by
  simp only[aM]at hv;simp only[bC]at ht;have Gv:=iI args;have M:∀x∈args,∀u,gq u=false->bC u<=8589934593->ah 49 [eC u,bP x] (.bool (bL x u)):=fun x O u h1 h2=>zQ x u h1 C1 h2;have A:=Ld (.mk k n a s args H B);by_cases d1:k=T;rotate_left
  ·have e1:(k != T)=true:=by simpa using d1
   rw[NJ _ _ _ _ _ _ _ _ (.inl d1)];refine qn Tryz.func49 Tryz.call49 fun β hf=>?_;exact dq
  subst d1;have e1:(k != k)=false:=by simp
  by_cases d2:cB (.mk k n a s args H B)=false
  ·rw[NJ _ _ _ _ _ _ _ _ (.inr (.inl d2))];rw[d2]at A;refine qn Tryz.func49 Tryz.call49 fun β hf=>?_;exact dq
  have d2':cB (.mk k n a s args H B)=true:=by simpa using d2
  rw[d2']at A;by_cases d3:200<s.length
  ·have e3:decide (((s.length:Nat):Int)>200)=true:=by simp;omega
   rw[NJ _ _ _ _ _ _ _ _ (.inr (.inr d3))];refine qn Tryz.func49 Tryz.call49 fun β hf=>?_;exact dq
  have e3:decide (((s.length:Nat):Int)>200)=false:=by simp;omega
  have SE:bL (.mk k n a s args H B) (.mk k ts)=X2 k n a args H (.mk k ts):=TW _ _ _ _ _ _ _ _ (by rintro(h|h|h);exact h rfl;exact d2 h;exact d3 h);rw[SE];obtain⟨Li,q⟩:=iF hb;simp only[bS,au]at Li q;have W:cB (.mk k n a s args H B)=true:=d2';rw[Lc]at W;clear SE d2 d2' d3;by_cases c:k=1
  ·subst c;show bw _ _ _ _ (.bool (decide (n=0/\args.length=0)));rw[<- az];refine qn Tryz.func49 Tryz.call49 fun β hf=>?_
   repeat' (first|refine sz ?_|(refine zc ?_ ?_<;>intro h<;>first|(cases h;done)|rw[h]|skip)|refine uC rfl A ?_|((first|refine zt ?_|refine zu ?_ ?_)<;>intro h<;>(fail_if_success (cases h;done))<;>rw[h]))
   all_goals
    show(_:CV)=_;clear hf A M W;refine congrArg CV.bool ?_;generalize (aa args).length=L at *;rw[Bool.eq_iff_iff]
    (try simp_all [bM])<;>(try omega)
  by_cases c:k=6
  ·subst c;show bw _ _ _ _ (.bool (decide (n=0/\args.length=0)));rw[<- az];refine qn Tryz.func49 Tryz.call49 fun β hf=>?_
   repeat' (first|refine sz ?_|(refine zc ?_ ?_<;>intro h<;>first|(cases h;done)|rw[h]|skip)|refine uC rfl A ?_|((first|refine zt ?_|refine zu ?_ ?_)<;>intro h<;>(fail_if_success (cases h;done))<;>rw[h]))
   all_goals
    show(_:CV)=_;clear hf A M W;refine congrArg CV.bool ?_;generalize (aa args).length=L at *;rw[Bool.eq_iff_iff]
    (try simp_all [bM])<;>(try omega)
  by_cases c:k=2
  ·subst c;show bw _ _ _ _ (.bool (decide (0<=n/\n<=1/\args.length=0)));rw[<- az];refine qn Tryz.func49 Tryz.call49 fun β hf=>?_
   repeat' (first|refine sz ?_|(refine zc ?_ ?_<;>intro h<;>first|(cases h;done)|rw[h]|skip)|refine uC rfl A ?_|((first|refine zt ?_|refine zu ?_ ?_)<;>intro h<;>(fail_if_success (cases h;done))<;>rw[h]))
   all_goals
    show(_:CV)=_;clear hf A M W;refine congrArg CV.bool ?_;generalize (aa args).length=L at *;rw[Bool.eq_iff_iff]
    (try simp_all [bM])<;>(try omega)
  by_cases c:k=3
  ·subst c;show bw _ _ _ _ (.bool (decide (-bM<=n/\n<=bM/\args.length=0)));have h1:=jf n;rw[zF]at h1;rw[<- az];refine qn Tryz.func49 Tryz.call49 fun β hf=>?_
   repeat' (first|refine sz ?_|(refine zc ?_ ?_<;>intro h<;>first|(cases h;done)|rw[h]|skip)|refine uC rfl A ?_|refine uC rfl h1 ?_|((first|refine zt ?_|refine zu ?_ ?_)<;>intro h<;>(fail_if_success (cases h;done))<;>rw[h]))
   all_goals
    show(_:CV)=_;clear hf A M W h1;refine congrArg CV.bool ?_;generalize (aa args).length=L at *;rw[Bool.eq_iff_iff]
    (try simp_all [bM])<;>(try omega)
  by_cases c:k=4
  ·subst c;show bw _ _ _ _ (.bool (decide (0<=n/\n<=bM/\args.length=0)));have h1:=jf n;rw[zF]at h1;rw[<- az];refine qn Tryz.func49 Tryz.call49 fun β hf=>?_
   repeat' (first|refine sz ?_|(refine zc ?_ ?_<;>intro h<;>first|(cases h;done)|rw[h]|skip)|refine uC rfl A ?_|refine uC rfl h1 ?_|((first|refine zt ?_|refine zu ?_ ?_)<;>intro h<;>(fail_if_success (cases h;done))<;>rw[h]))
   all_goals
    show(_:CV)=_;clear hf A M W h1;refine congrArg CV.bool ?_;generalize (aa args).length=L at *;rw[Bool.eq_iff_iff]
    (try simp_all [bM])<;>(try omega)
  by_cases c:k=5
  ·subst c;show bw _ _ _ _ (.bool (decide (0<=n/\n<=bM/\args.length=0)));have h1:=jf n;rw[zF]at h1;rw[<- az];refine qn Tryz.func49 Tryz.call49 fun β hf=>?_
   repeat' (first|refine sz ?_|(refine zc ?_ ?_<;>intro h<;>first|(cases h;done)|rw[h]|skip)|refine uC rfl A ?_|refine uC rfl h1 ?_|((first|refine zt ?_|refine zu ?_ ?_)<;>intro h<;>(fail_if_success (cases h;done))<;>rw[h]))
   all_goals
    show(_:CV)=_;clear hf A M W h1;refine congrArg CV.bool ?_;generalize (aa args).length=L at *;rw[Bool.eq_iff_iff]
    (try simp_all [bM])<;>(try omega)
  by_cases c:k=7
  ·subst c;show bw _ _ _ _ (.bool (decide (0<=n/\n<12/\args.length=0)));have h1:=rH n;rw[<- az];refine qn Tryz.func49 Tryz.call49 fun β hf=>?_
   repeat' (first|refine sz ?_|(refine zc ?_ ?_<;>intro h<;>first|(cases h;done)|rw[h]|skip)|refine uC rfl A ?_|refine uC rfl h1 ?_|((first|refine zt ?_|refine zu ?_ ?_)<;>intro h<;>(fail_if_success (cases h;done))<;>rw[h]))
   all_goals
    show(_:CV)=_;clear hf A M W h1;refine congrArg CV.bool ?_;generalize (aa args).length=L at *;rw[Bool.eq_iff_iff]
    (try simp_all [bM])<;>(try omega)
  by_cases c:k=9
  ·subst c;show bw _ _ _ _ (.bool (decide (n=0/\args.length<=1)&&aR args (aD (.mk 9 ts) 0)));obtain⟨u,rfl⟩:=Le (show ts.length=1 by(have:arity 9=1:=by decide);omega);show bw _ _ _ _ (.bool (decide (n=0/\args.length<=1)&&aR args u));have S:gq u=false:=dz q cn;have N:bC u<=8589934593:=by have:=cF (l:=[u]) (x:=u) cn;omega
   have h1:=Et u args (fun x O=>M x O u S N) bn;have g1:[u][0]?=some u:=rfl;obtain⟨U,us⟩:=u;refine qn Tryz.func49 Tryz.call49 fun β hf=>?_
   repeat' (first|refine sz ?_|(refine zc ?_ ?_<;>intro h<;>first|(cases h;done)|rw[h]|skip)|refine uC rfl A ?_|refine uC rfl h1 ?_|refine uI rfl (0) rfl (fQ g1) rfl ?_|((first|refine zt ?_|refine zu ?_ ?_)<;>intro h<;>(fail_if_success (cases h;done))<;>rw[h]))
   all_goals
    show(_:CV)=_;clear hf A M W h1
    (try simp_all [az])<;>(try omega)
  by_cases c:k=10
  ·subst c;show bw _ _ _ _ (.bool (decide (n=0/\args.length<=24)&&aR args (aD (.mk 10 ts) 0)));obtain⟨u,rfl⟩:=Le (show ts.length=1 by(have:arity 10=1:=by decide);omega);show bw _ _ _ _ (.bool (decide (n=0/\args.length<=24)&&aR args u));have S:gq u=false:=dz q cn;have N:bC u<=8589934593:=by have:=cF (l:=[u]) (x:=u) cn;omega
   have h1:=Et u args (fun x O=>M x O u S N) bn;have g1:[u][0]?=some u:=rfl;obtain⟨U,us⟩:=u;refine qn Tryz.func49 Tryz.call49 fun β hf=>?_
   repeat' (first|refine sz ?_|(refine zc ?_ ?_<;>intro h<;>first|(cases h;done)|rw[h]|skip)|refine uC rfl A ?_|refine uC rfl h1 ?_|refine uI rfl (0) rfl (fQ g1) rfl ?_|((first|refine zt ?_|refine zu ?_ ?_)<;>intro h<;>(fail_if_success (cases h;done))<;>rw[h]))
   all_goals
    show(_:CV)=_;clear hf A M W h1
    (try simp_all [az])<;>(try omega)
  by_cases c:k=11
  ·subst c;show bw _ _ _ _ (.bool (decide (n=0/\args.length=2)&&cX args ts));obtain⟨u,Y,rfl⟩:=Bv (show ts.length=2 by(have:arity 11=2:=by decide);omega);by_cases I:args.length=2
   ·obtain⟨x,y,rfl⟩:=VI I;have S:gq u=false:=dz q cn;have hu':gq Y=false:=dz q cn;have N:bC u<=8589934593:=by have:=cF (l:=[u,Y]) (x:=u) cn;omega
    have VK:bC Y<=8589934593:=by have:=cF (l:=[u,Y]) (x:=Y) cn;omega
    have h1:=M x cn u S N;have h2:=M y cn Y hu' VK;have g1:[u,Y][0]?=some u:=rfl;have J:[u,Y][1]?=some Y:=rfl;have K:[x,y][0]?=some x:=rfl;have g4:[x,y][1]?=some y:=rfl;have Q:(decide (n=0/\[x,y].length=2)&&cX [x,y] [u,Y])=(decide (n=0)&&(bL x u&&bL y Y)):=by
     rw[show cX [x,y] [u,Y]=(bL x u&&bL y Y)from by unfold cX;unfold cX;unfold cX;simp];simp
    rw[Q];clear Q W;generalize bL x u=E at h1;generalize bL y Y=b2 at h2;obtain⟨U,us⟩:=u;obtain⟨U',us'⟩:=Y;obtain⟨x1,D,x3,x4,x5,x6,x7⟩:=x;obtain⟨y1,y2,y3,y4,y5,y6,y7⟩:=y;refine qn Tryz.func49 Tryz.call49 fun β hf=>?_
    repeat' (first|refine sz ?_|(refine zc ?_ ?_<;>intro h<;>first|(cases h;done)|rw[h]|skip)|refine uC rfl A ?_|refine uC rfl h1 ?_|refine uC rfl h2 ?_|refine uI rfl (0) rfl (fQ g1) rfl ?_|refine uI rfl (1) rfl (fQ J) rfl ?_|refine uI rfl (0) rfl (eF K) rfl ?_|refine uI rfl (1) rfl (eF g4) rfl ?_|((first|refine zt ?_|refine zu ?_ ?_)<;>intro h<;>(fail_if_success (cases h;done))<;>rw[h]))
    all_goals
     show(_:CV)=_;clear hf A M h1 h2;simp_all [az]
     try (intro EB;cases E<;>simp_all)
   ·have Q:((((aa args).length:Nat):Int)==2)=false:=by rw[az];simp;omega
    refine qn Tryz.func49 Tryz.call49 fun β hf=>?_
    repeat' (first|refine sz ?_|(refine zc ?_ ?_<;>intro h<;>first|(cases h;done)|rw[h]|skip)|refine uC rfl A ?_|((first|refine zt ?_|refine zu ?_ ?_)<;>intro h<;>(fail_if_success (cases h;done))<;>rw[h]))
    all_goals
     show(_:CV)=_;clear hf A M W;simp_all
  by_cases c:k=12
  ·subst c;show bw _ _ _ _ (.bool (decide (0<=n/\n<=1/\args.length=1)&&aR args (aD (.mk 12 ts) n.toNat)));obtain⟨u,Y,rfl⟩:=Bv (show ts.length=2 by(have:arity 12=2:=by decide);omega);by_cases I:args.length=1
   ·obtain⟨x,rfl⟩:=NI I;have S:gq u=false:=dz q cn;have hu':gq Y=false:=dz q cn;have N:bC u<=8589934593:=by have:=cF (l:=[u,Y]) (x:=u) cn;omega
    have VK:bC Y<=8589934593:=by have:=cF (l:=[u,Y]) (x:=Y) cn;omega
    have h1:=M x cn u S N;have h2:=M x cn Y hu' VK;have g1:[u,Y][0]?=some u:=rfl;have J:[u,Y][1]?=some Y:=rfl;have K:[x][0]?=some x:=rfl;have ev:∀w,aR [x] w=bL x w:=fun w=>by unfold aR;unfold aR;simp
    rw[ev];clear ev W;by_cases n0:n=0
    ·subst n0;show bw _ _ _ _ (.bool (decide ((0:Int)<=0/\(0:Int)<=1/\[x].length=1)&&bL x u));clear h2;generalize bL x u=E at h1;obtain⟨U,us⟩:=u;obtain⟨x1,D,x3,x4,x5,x6,x7⟩:=x;refine qn Tryz.func49 Tryz.call49 fun β hf=>?_
     repeat' (first|refine sz ?_|(refine zc ?_ ?_<;>intro h<;>first|(cases h;done)|rw[h]|skip)|refine uC rfl A ?_|refine uC rfl h1 ?_|refine uI rfl (0) rfl (fQ g1) rfl ?_|refine uI rfl (0) rfl (eF K) rfl ?_|((first|refine zt ?_|refine zu ?_ ?_)<;>intro h<;>(fail_if_success (cases h;done))<;>rw[h]))
     all_goals
      show(_:CV)=_;clear hf A M h1;simp_all [az]
    by_cases n1:n=1
    ·subst n1;show bw _ _ _ _ (.bool (decide ((0:Int)<=1/\(1:Int)<=1/\[x].length=1)&&bL x Y));clear h1;generalize bL x Y=E at h2;obtain⟨U,us⟩:=Y;obtain⟨x1,D,x3,x4,x5,x6,x7⟩:=x;refine qn Tryz.func49 Tryz.call49 fun β hf=>?_
     repeat' (first|refine sz ?_|(refine zc ?_ ?_<;>intro h<;>first|(cases h;done)|rw[h]|skip)|refine uC rfl A ?_|refine uC rfl h2 ?_|refine uI rfl (1) rfl (fQ J) rfl ?_|refine uI rfl (0) rfl (eF K) rfl ?_|((first|refine zt ?_|refine zu ?_ ?_)<;>intro h<;>(fail_if_success (cases h;done))<;>rw[h]))
     all_goals
      show(_:CV)=_;clear hf A M h2;simp_all [az]
    ·rw[show decide (0<=n/\n<=1/\[x].length=1)=false from by simp;omega,Bool.false_and];by_cases n2:n<0
     ·have Q:decide (n>=0)=false:=by simp;omega
      refine qn Tryz.func49 Tryz.call49 fun β hf=>?_;exact dq
     ·have Q:decide (n>=0)=true:=by simp;omega
      have e6:decide (n<=1)=false:=by simp;omega
      refine qn Tryz.func49 Tryz.call49 fun β hf=>?_;exact dq
   ·have Q:((((aa args).length:Nat):Int)==1)=false:=by rw[az];simp;omega
    refine qn Tryz.func49 Tryz.call49 fun β hf=>?_
    repeat' (first|refine sz ?_|(refine zc ?_ ?_<;>intro h<;>first|(cases h;done)|rw[h]|skip)|refine uC rfl A ?_|((first|refine zt ?_|refine zu ?_ ?_)<;>intro h<;>(fail_if_success (cases h;done))<;>rw[h]))
    all_goals
     show(_:CV)=_;clear hf A M W;simp_all
  by_cases c:k=13
  ·subst c;show bw _ _ _ _ (.bool (decide (n=0/\args.length<=24)&&oV (.mk 11 ts) none args));by_cases n0:n=0;rotate_left
   ·have Q:(n != 0)=true:=by simpa using n0
    rw[show decide (n=0/\args.length<=24)=false from by simp[n0],Bool.false_and];refine qn Tryz.func49 Tryz.call49 fun β hf=>?_;exact dq
   subst n0;by_cases I:args.length<=24;rotate_left
   ·have Q:decide ((((aa args).length:Nat):Int)>24)=true:=by rw[az];simp;omega
    rw[show decide ((0:Int)=0/\args.length<=24)=false from by simp;omega,Bool.false_and];refine qn Tryz.func49 Tryz.call49 fun β hf=>?_;exact dq
   have Q:decide ((((aa args).length:Nat):Int)>24)=false:=by rw[az];simp;omega
   rw[show decide ((0:Int)=0/\args.length<=24)=true from by simp[I],Bool.true_and];obtain⟨u,Y,rfl⟩:=Bv (show ts.length=2 by(have:arity 13=2:=by decide);omega);have S:gq u=false:=dz q cn;have Wx:gq (.mk 11 [u,Y])=false:=by
    simp only[gq,Bool.or_eq_false_iff];exact⟨by show decide (arity 11≠2)=false;decide,q⟩
   have hps:bC (.mk 11 [u,Y])<=8589934593:=by simp only[bC];omega
   clear W;refine qn Tryz.func49 Tryz.call49 fun β hf=>?_
   repeat' (first|refine sz ?_|(refine zc ?_ ?_<;>intro h<;>first|(cases h;done)|rw[h]|skip)|refine uC rfl A ?_|((first|refine zt ?_|refine zu ?_ ?_)<;>intro h<;>(fail_if_success (cases h;done))<;>rw[h]))
   refine AK.eM (α:=Nat) (fun i=>i<=args.length/\oV (.mk 11 [u,Y]) none args=oV (.mk 11 [u,Y]) (pre args i) (args.drop i)/\∀p,pre args i=some p->p∈args/\bL p (.mk 11 [u,Y])=true) (fun i=>args.length-i)
    (fun i=>[(192,.c (.int .i64 i)),(191,.c (.int .i64 (aa args).length)),(190,.c (.sl 7 (aa args))),(2,.ptr 2 0),(3,.ptr 3 0)])
    (fun _=>[(2,[.c (.int .i64 13),.c (.sl 2 (aE [u,Y]))]),(3,[.c (.int .i64 13),.c (.int .i64 0),.c (.int .i64 a),.c (.str s),.c (.sl 7 (aa args)),.c (.sl 2 (aE H)),.c (.sl 5 (aH B))])]) (fun _=>[]) [2,3] 0
    ⟨bn,rfl,fun p h=>by simp[pre]at h⟩ ⟨.inl rfl,.inl rfl,.inl rfl,.inl rfl,.inl rfl,trivial⟩ ⟨rfl,rfl,trivial⟩ trivial rfl rfl rfl ?_
   rintro i ⟨hi,C,hpre⟩ ih;rcases gf args i hi with ⟨x,O,hm⟩|he
   ·have hc:=xm O;have hq:=M x hm _ Wx hps;have hlt:=bD O;rw[dO O]at C;have W8:pre args (i+1)=some x:=by simp only[pre,Nat.add_one_ne_zero,if_false,Nat.add_sub_cancel];exact O
    by_cases X3:bL x (.mk 11 [u,Y])=true;rotate_left
    ·have hxf:bL x (.mk 11 [u,Y])=false:=by simpa using X3
     rw[hxf]at hq;have h0:oV (.mk 11 [u,Y]) none args=false:=by
      rw[C];cases pre args i<;>simp only[vH,vG,hxf,Bool.false_and]
     rw[h0];clear C h0;obtain⟨x1,D,x3,x4,x5,x6,x7⟩:=x;have tW:=eF O;exact dq
    ·rw[X3]at hq;obtain⟨D,x3,x4,x6,x7,V,xv,rfl,hxk,hxv⟩:=Wz X3;by_cases i0:i=0
     ·subst i0;have hinv':oV (.mk 11 [u,Y]) none args=oV (.mk 11 [u,Y]) (some (.mk 11 D x3 x4 [V,xv] x6 x7)) (args.drop 1):=by
       rw[C];simp only[pre,if_true,vG,X3,Bool.true_and]
      repeat' (first|refine sz ?_|(refine zc ?_ ?_<;>intro h<;>first|(cases h;done)|rw[h]|skip)|refine uI rfl (0) rfl (eF O) rfl ?_|refine uC rfl hq ?_|((first|refine zt ?_|refine zu ?_ ?_)<;>intro h<;>(fail_if_success (cases h;done))<;>rw[h]))
      refine AK.again (ih 1 ⟨hlt,?_,?_⟩ bn) ⟨.inl rfl,.inl rfl,.inl rfl,.inl rfl,.inl rfl,trivial⟩ ⟨rfl,rfl,trivial⟩ trivial rfl rfl rfl
      ·rw[hinv',W8]
      ·intro p A;rw[W8]at A;cases A;exact⟨hm,X3⟩
     ·have ei:decide (((i:Nat):Int)>0)=true:=by simp;omega
      obtain⟨p,Yt⟩:∃p,args[i-1]?=some p:=⟨args[i-1]' bn,cn⟩
      have hpi:pre args i=some p:=by simp only[pre,if_neg i0];exact Yt
      obtain⟨hpm,hph⟩:=hpre p hpi;have IJ:IntKind.i64.wrap (((i:Nat):Int)-1)=((i-1:Nat):Int):=by rw[gZ bn bn];omega
      have ada:=ew hpm;obtain⟨p2,p3,p4,p6,p7,G,pv,rfl,hpk,hpv⟩:=Wz hph;have hcq:=nV G V u S hpk hxk (by simp only[aM,aL]at ada;omega);have P:oV (.mk 11 [u,Y]) none args=(decide (dA G V<0)&&oV (.mk 11 [u,Y]) (some (.mk 11 D x3 x4 [V,xv] x6 x7)) (args.drop (i+1))):=by
       rw[C,hpi];rw[vH];rw[X3,Bool.true_and];rfl
      have g1:[G,pv][0]?=some G:=rfl;have J:[V,xv][0]?=some V:=rfl;by_cases hcm:dA G V<0
      ·have ec:decide (dA G V>=0)=false:=by simp;omega
       rw[show decide (dA G V<0)=true from by simpa using hcm,Bool.true_and]at P;obtain⟨a1,a2,a3,a4,a5,a6,a7⟩:=V;obtain⟨E,b2,b3,b4,b5,b6,b7⟩:=G
       repeat' (first|refine sz ?_|(refine zc ?_ ?_<;>intro h<;>first|(cases h;done)|rw[h]|skip)|refine uI rfl (i) rfl (eF O) rfl ?_|refine uC rfl hq ?_|refine ai.index Tryz.hX rfl rfl rfl rfl rfl rfl rfl rfl rfl rfl (i-1) IJ (eF Yt) rfl ?_|refine uI rfl (0) rfl (eF g1) rfl ?_|refine uI rfl (0) rfl (eF J) rfl ?_|refine uC rfl hcq ?_|((first|refine zt ?_|refine zu ?_ ?_)<;>intro h<;>(fail_if_success (cases h;done))<;>rw[h]))
       refine AK.again (ih (i+1) ⟨hlt,?_,?_⟩ bn) ⟨.inl (iD bn),.inl rfl,.inl rfl,.inl rfl,.inl rfl,trivial⟩ ⟨rfl,rfl,trivial⟩ trivial rfl rfl rfl
       ·rw[P,W8]
       ·intro p A;rw[W8]at A;cases A;exact⟨hm,X3⟩
      ·have ec:decide (dA G V>=0)=true:=by simp;omega
       rw[show decide (dA G V<0)=false from by simpa using hcm,Bool.false_and]at P;rw[P];clear P C;obtain⟨a1,a2,a3,a4,a5,a6,a7⟩:=V;obtain⟨E,b2,b3,b4,b5,b6,b7⟩:=G
       repeat' (first|refine sz ?_|(refine zc ?_ ?_<;>intro h<;>first|(cases h;done)|rw[h]|skip)|refine uI rfl (i) rfl (eF O) rfl ?_|refine uC rfl hq ?_|refine ai.index Tryz.hX rfl rfl rfl rfl rfl rfl rfl rfl rfl rfl (i-1) IJ (eF Yt) rfl ?_|refine uI rfl (0) rfl (eF g1) rfl ?_|refine uI rfl (0) rfl (eF J) rfl ?_|refine uC rfl hcq ?_|((first|refine zt ?_|refine zu ?_ ?_)<;>intro h<;>(fail_if_success (cases h;done))<;>rw[h]))
       all_goals rfl
   ·have hc:=sK he;have h0:oV (.mk 11 [u,Y]) none args=true:=by
     rw[C,he,List.drop_length];exact TV _ _
    rw[h0];clear ih;exact dq
  by_cases c:k=14
  ·subst c;show bw _ _ _ _ (.bool (cP (aD (.mk 14 ts) 0) (H.getD 0 lF)&&cP (aD (.mk 14 ts) 1) (H.getD 1 lF)));obtain⟨u,Y,rfl⟩:=Bv (show ts.length=2 by(have:arity 14=2:=by decide);omega)
   obtain⟨w,w',rfl⟩:=Bv (show H.length=2 by
    have h:decide (H.length=2/\a=0/\n=0/\s=[]/\args.length=0)=true:=W
    simp only[decide_eq_true_eq]at h;exact h.1)
   show bw _ _ _ _ (.bool (cP u w&&cP Y w'));have N:bC u<=8589934593:=by have:=cF (l:=[u,Y]) (x:=u) cn;omega
   have VK:bC Y<=8589934593:=by have:=cF (l:=[u,Y]) (x:=Y) cn;omega
   have h1:=gH u w bn;have h2:=gH Y w' bn;have g1:[u,Y][0]?=some u:=rfl;have J:[u,Y][1]?=some Y:=rfl;have K:[w,w'][0]?=some w:=rfl;have g4:[w,w'][1]?=some w':=rfl;generalize cP u w=E at h1;generalize cP Y w'=b2 at h2;clear W;obtain⟨u1,u2⟩:=u;obtain⟨u3,u4⟩:=Y;obtain⟨w1,w2⟩:=w;obtain⟨w3,w4⟩:=w';refine qn Tryz.func49 Tryz.call49 fun β hf=>?_
   repeat' (first|refine sz ?_|(refine zc ?_ ?_<;>intro h<;>first|(cases h;done)|rw[h]|skip)|refine uC rfl A ?_|refine uC rfl h1 ?_|refine uC rfl h2 ?_|refine uI rfl (0) rfl (fQ g1) rfl ?_|refine uI rfl (1) rfl (fQ J) rfl ?_|refine uI rfl (0) rfl (fQ K) rfl ?_|refine uI rfl (1) rfl (fQ g4) rfl ?_|((first|refine zt ?_|refine zu ?_ ?_)<;>intro h<;>(fail_if_success (cases h;done))<;>rw[h]))
   all_goals
    show(_:CV)=_;clear hf A M h1 h2;simp_all
  by_cases c:k=15
  ·subst c;show bw _ _ _ _ (.bool (decide (1<=n/\n<=bM/\0<=a/\a<12/\args.length=1)&&aR args (aD (.mk 15 ts) 0)));obtain⟨u,rfl⟩:=Le (show ts.length=1 by(have:arity 15=1:=by decide);omega);have h1:=jf n;rw[zF]at h1;have h2:=rH a;by_cases I:args.length=1
   ·obtain⟨x,rfl⟩:=NI I;have S:gq u=false:=dz q cn;have N:bC u<=8589934593:=by have:=cF (l:=[u]) (x:=u) cn;omega
    have h3:=M x cn u S N;have g1:[u][0]?=some u:=rfl;have K:[x][0]?=some x:=rfl;rw[show aR [x] (aD (.mk 15 [u]) 0)=bL x u from by unfold aR;unfold aR;simp[aD,au]];generalize bL x u=E at h3;obtain⟨U,us⟩:=u;obtain⟨x1,D,x3,x4,x5,x6,x7⟩:=x;refine qn Tryz.func49 Tryz.call49 fun β hf=>?_
    repeat' (first|refine sz ?_|(refine zc ?_ ?_<;>intro h<;>first|(cases h;done)|rw[h]|skip)|refine uC rfl A ?_|refine uC rfl h1 ?_|refine uC rfl h2 ?_|refine uC rfl h3 ?_|refine uI rfl (0) rfl (fQ g1) rfl ?_|refine uI rfl (0) rfl (eF K) rfl ?_|((first|refine zt ?_|refine zu ?_ ?_)<;>intro h<;>(fail_if_success (cases h;done))<;>rw[h]))
    all_goals
     show(_:CV)=_;clear hf A M h1 h2 h3 W
     (try simp_all [bM,az])<;>(try omega)
   ·have Q:((((aa args).length:Nat):Int)==1)=false:=by rw[az];simp;omega
    refine qn Tryz.func49 Tryz.call49 fun β hf=>?_
    repeat' (first|refine sz ?_|(refine zc ?_ ?_<;>intro h<;>first|(cases h;done)|rw[h]|skip)|refine uC rfl A ?_|refine uC rfl h1 ?_|refine uC rfl h2 ?_|((first|refine zt ?_|refine zu ?_ ?_)<;>intro h<;>(fail_if_success (cases h;done))<;>rw[h]))
    all_goals
     show(_:CV)=_;clear hf A M h1 h2 W;simp_all
  by_cases c:k=8
  ·subst c;show bw _ _ _ _ (.bool (decide (0<=n/\n<=bM/\0<=a/\a<12/\args.length=1)&&bA (H.getD 0 lF)&&aR args (H.getD 0 lF)))
   obtain⟨u,rfl⟩:=Le (show H.length=1 by
    have h:decide (H.length=1/\B.length=0/\s=[])=true:=W
    simp only[decide_eq_true_eq]at h;exact h.1)
   have h1:=jf n;rw[zF]at h1;have h2:=rH a;by_cases I:args.length=1
   ·obtain⟨x,rfl⟩:=NI I;have N:bC u<=8589934593:=by have:=cF (l:=[u]) (x:=u) cn;omega
    have hg:=nq u N;have g1:[u][0]?=some u:=rfl;have K:[x][0]?=some x:=rfl;rw[show aR [x] ([u].getD 0 lF)=bL x u from by unfold aR;unfold aR;simp];rw[aaq];by_cases hgd:bA u=true
    ·have h3:=M x cn u (mb hgd) N;rw[hgd]at hg ⊢;generalize bL x u=E at h3;obtain⟨U,us⟩:=u;obtain⟨x1,D,x3,x4,x5,x6,x7⟩:=x;refine qn Tryz.func49 Tryz.call49 fun β hf=>?_
     repeat' (first|refine sz ?_|(refine zc ?_ ?_<;>intro h<;>first|(cases h;done)|rw[h]|skip)|refine uC rfl A ?_|refine uC rfl h1 ?_|refine uC rfl h2 ?_|refine uC rfl hg ?_|refine uC rfl h3 ?_|refine uI rfl (0) rfl (fQ g1) rfl ?_|refine uI rfl (0) rfl (eF K) rfl ?_|((first|refine zt ?_|refine zu ?_ ?_)<;>intro h<;>(fail_if_success (cases h;done))<;>rw[h]))
     all_goals
      show(_:CV)=_;clear hf A M h1 h2 h3 hg W
      (try simp_all [bM,az])<;>(try omega)
    ·have hgf:bA u=false:=by simpa using hgd
     rw[hgf]at hg ⊢;obtain⟨U,us⟩:=u;refine qn Tryz.func49 Tryz.call49 fun β hf=>?_
     repeat' (first|refine sz ?_|(refine zc ?_ ?_<;>intro h<;>first|(cases h;done)|rw[h]|skip)|refine uC rfl A ?_|refine uC rfl h1 ?_|refine uC rfl h2 ?_|refine uC rfl hg ?_|refine uI rfl (0) rfl (fQ g1) rfl ?_|((first|refine zt ?_|refine zu ?_ ?_)<;>intro h<;>(fail_if_success (cases h;done))<;>rw[h]))
     all_goals
      show(_:CV)=_;clear hf A M h1 h2 hg W;simp_all [bM]
   ·have Q:((((aa args).length:Nat):Int)==1)=false:=by rw[az];simp;omega
    refine qn Tryz.func49 Tryz.call49 fun β hf=>?_
    repeat' (first|refine sz ?_|(refine zc ?_ ?_<;>intro h<;>first|(cases h;done)|rw[h]|skip)|refine uC rfl A ?_|refine uC rfl h1 ?_|refine uC rfl h2 ?_|((first|refine zt ?_|refine zu ?_ ?_)<;>intro h<;>(fail_if_success (cases h;done))<;>rw[h]))
    all_goals
     show(_:CV)=_;clear hf A M h1 h2 W;simp_all
  exfalso;have:=Lf Li;omega
termination_by v=>SizeOf.sizeOf v
decreasing_by
 have:=List.sizeOf_lt_of_mem O;simp at this ⊢;omega
end Go.Proofs
