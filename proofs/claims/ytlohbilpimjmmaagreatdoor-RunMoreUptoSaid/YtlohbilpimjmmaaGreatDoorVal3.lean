/- What each and has of package value answer. -/
import Derived.Test.YtlohbilpimjmmaaGreatDoorVal2
set_option maxHeartbeats 0
set_option linter.unusedVariables false
set_option linter.unusedSimpArgs false
set_option maxRecDepth 100000
namespace Go.Proofs
open Go.cq
theorem BG (t:Ty):∀(l:List Vl),(!(l.any fun x => !bK x t))=aR l t
 | []=>rfl
 | x::l=>by simp only[aR,<- BG t l,List.any_cons];cases bK x t<;>simp
def Yh:List Vl->Bool
 | []=>true
 | [_]=>true
 | x::y::l=>decide (dx (lJ x) (lJ y)<0)&&Yh (y::l)
theorem Ug:∀l:List Vl,xo l=Yh l
 | []=>rfl
 | [_]=>rfl
 | x::y::l=>by
  have:=Ug (y::l);simp only[Yh,<- this];rfl
def oY (t:Ty):Option Vl->List Vl->Bool
 | _,[]=>true
 | none,x::l=>bK x t&&oY t (some x) l
 | some p,x::l=>bK x t&&(decide (dx (lJ p) (lJ x)<0)&&oY t (some x) l)
theorem GJ (t:Ty):∀(l:List Vl) (p:Vl),oY t (some p) l=(aR l t&&Yh (p::l))
 | [],p=>by simp[oY,aR,Yh]
 | x::l,p=>by
  simp only[oY,aR,Yh,GJ t l x];cases bK x t<;>cases aR l t<;>cases decide (dx (lJ p) (lJ x)<0)<;>simp
theorem QS (t:Ty) (l:List Vl):oY t none l=(aR l t&&xo l):=by
 rw[Ug];cases l with
 | nil=>rfl
 | cons x l =>
  simp only[oY,aR,GJ];cases bK x t<;>simp
theorem Uh (t:Ty) (p:Option Vl):oY t p []=true:=by cases p<;>rfl
theorem vO (t:Ty) (x:Vl) (l:List Vl):oY t none (x::l)=(bK x t&&oY t (some x) l):=rfl
theorem vP (t:Ty) (p x:Vl) (l:List Vl):oY t (some p) (x::l)=(bK x t&&(decide (dx (lJ p) (lJ x)<0)&&oY t (some x) l)):=rfl
theorem NY (k n a:Int) (s:List UInt8) (args:List Vl) (B:List Ty) (H:List Nd) (t:Ty) (h:k≠bR t\/cw (.mk k n a s args B H)=false\/200<s.length):bK (.mk k n a s args B H) t=false:=by simp only[bK,if_pos h]
theorem Ui (k n a:Int) (s:List UInt8) (args:List Vl) (B:List Ty) (H:List Nd) (t:Ty) (h:¬(k≠bR t\/cw (.mk k n a s args B H)=false\/200<s.length)):bK (.mk k n a s args B H) t =
  (if k=1\/k=6 then decide (n=0/\args.length=0)
  else if k=2 then decide (0<=n/\n<=1/\args.length=0)
  else if k=3 then decide (-bP<=n/\n<=bP/\args.length=0)
  else if k=4\/k=5 then decide (0<=n/\n<=bP/\args.length=0)
  else if k=7 then decide (0<=n/\n<12/\args.length=0)
  else if k=9 then decide (n=0/\args.length<=1)&&aR args (aE t 0)
  else if k=10 then decide (n=0/\args.length<=24)&&aR args (aE t 0)
  else if k=11 then decide (n=0/\args.length=2)&&cW args (aA t)
  else if k=12 then decide (0<=n/\n<=1/\args.length=1)&&aR args (aE t n.toNat)
  else if k=13 then decide (n=0/\args.length<=24)&&oY (.mk 11 (aA t)) none args
  else if k=14 then cP (aE t 0) (B.getD 0 lA)&&cP (aE t 1) (B.getD 1 lA)
  else if k=15 then decide (1<=n/\n<=bP/\0<=a/\a<12/\args.length=1)&&aR args (aE t 0)
  else if k=8 then decide (0<=n/\n<=bP/\0<=a/\a<12/\args.length=1)&&bw (B.getD 0 lA)&&aR args (B.getD 0 lA)
  else false):=by
 simp only[bK,if_neg h,QS,Bool.and_assoc]
attribute [local irreducible] AK ai bh bt dx iY bK aR cW oO gN cP gI oF jS ud eA cw oY Yh xo bw
theorem EB (t:Ty) (l:List Vl) (A:∀x∈l,ag 49 [eB t,bM x] (.bool (bK x t))) (Y:l.length<=1099511627776) :
  ag 75 [eB t,.sl 7 (aa l)] (.bool (aR l t)):=by
 obtain⟨T,ts⟩:=t;have O:∀x∈l,ag 103 (bM x::[.ip [.int .i64 T,.sl 2 (aq ts)]]) (.bool (!bK x (.mk T ts))):=by
  intro x N;have W:=A x N;obtain⟨q,u,J,C,S,I,E⟩:=x;refine qn Tryz.func103 Tryz.call103 fun β hf=>?_;exact dq
 have hq:=sI l (fun x => !bK x (.mk T ts)) 103 [.ip [.int .i64 T,.sl 2 (aq ts)]] O Y;rw[<- BG];refine qn Tryz.func75 Tryz.call75 fun β hf=>?_;refine AK.seq ?_;refine AK.region Tryz.mixed rfl ?_
 repeat' (first|refine so ?_)
 refine AK.freeze 2 rfl rfl rfl rfl ?_;exact dq
def Yi (k n a:Int) (args:List Vl) (B:List Ty) (t:Ty):Bool :=
  if k=1\/k=6 then decide (n=0/\args.length=0)
  else if k=2 then decide (0<=n/\n<=1/\args.length=0)
  else if k=3 then decide (-bP<=n/\n<=bP/\args.length=0)
  else if k=4\/k=5 then decide (0<=n/\n<=bP/\args.length=0)
  else if k=7 then decide (0<=n/\n<12/\args.length=0)
  else if k=9 then decide (n=0/\args.length<=1)&&aR args (aE t 0)
  else if k=10 then decide (n=0/\args.length<=24)&&aR args (aE t 0)
  else if k=11 then decide (n=0/\args.length=2)&&cW args (aA t)
  else if k=12 then decide (0<=n/\n<=1/\args.length=1)&&aR args (aE t n.toNat)
  else if k=13 then decide (n=0/\args.length<=24)&&oY (.mk 11 (aA t)) none args
  else if k=14 then cP (aE t 0) (B.getD 0 lA)&&cP (aE t 1) (B.getD 1 lA)
  else if k=15 then decide (1<=n/\n<=bP/\0<=a/\a<12/\args.length=1)&&aR args (aE t 0)
  else if k=8 then decide (0<=n/\n<=bP/\0<=a/\a<12/\args.length=1)&&bw (B.getD 0 lA)&&aR args (B.getD 0 lA)
  else false
theorem zO (n:Int):uh n=decide (-bP<=n/\n<=bP):=by
 unfold uh;rw[Bool.eq_iff_iff];simp[bP]
theorem WS {x:Vl} {u Y:Ty} (h:bK x (.mk 11 [u,Y])=true):∃n a s B H y z,x = .mk 11 n a s [y,z] B H/\bK y u=true/\bK z Y=true:=by
 obtain⟨k,n,a,s,args,B,H⟩:=x;obtain⟨h1,h2,V⟩:=oZ h;have O:k=11:=h1;subst O;rw[Ui _ _ _ _ _ _ _ _ (by rintro(h|h|h);exact h h1;rw[h2]at h;cases h;omega)]at h;have W:(decide (n=0/\args.length=2)&&cW args [u,Y])=true:=h;simp only[aai,decide_eq_true_eq]at W;obtain⟨y,z,rfl⟩:=V3 W.1.2;have p:(bK y u&&(bK z Y&&cW [] []))=true:=by
  have:=W.2;unfold cW at this;unfold cW at this;exact this
 simp only[aai]at p;exact⟨n,a,s,B,H,y,z,rfl,p.1,p.2.1⟩
theorem Lv {l:List Ty} (h:l.length=1):∃x,l=[x]:=by
 match l,h with
 | [x],_=>exact⟨x,rfl⟩
theorem Lw {k:Int} {m:Nat} (h:arity k=(m:Int)):1<=k/\k<=15:=by
 unfold arity at h;split at h<;>omega
theorem aaA (x:Ty) (l:List Ty) (d:Ty):(x::l).getD 0 d=x:=rfl
theorem mo {t:Ty} (h:bw t=true):gm t=false:=by
 cases G:gm t with
 | false=>rfl
 | true =>
  have h1:=CE t 24 300 G;rw[Fq,h]at h1;cases h1
def pre (l:List Vl) (i:Nat):Option Vl:=if i=0 then none else l[i-1]?
theorem zY:∀(v:Vl) (t:Ty),gm t=false->aM v<=8589934593->bA t<=8589934593->ag 49 [eB t,bM v] (.bool (bK v t))
 | .mk k n a s args B H,.mk T ts,hb,hv,ht=>by
  simp only[aM]at hv;simp only[bA]at ht;have IQ:=gM args;have O:∀x∈args,∀u,gm u=false->bA u<=8589934593->ag 49 [eB u,bM x] (.bool (bK x u)):=fun x N u h1 h2=>zY x u h1 (by have:=dO N;omega) h2;have A:=Lu (.mk k n a s args B H);by_cases d1:k=T;rotate_left
  ·have e1:(k != T)=true:=by simpa using d1
   rw[NY _ _ _ _ _ _ _ _ (.inl d1)];refine qn Tryz.func49 Tryz.call49 fun β hf=>?_;exact dq
  subst d1;have e1:(k != k)=false:=by simp
  by_cases d2:cw (.mk k n a s args B H)=false
  ·rw[NY _ _ _ _ _ _ _ _ (.inr (.inl d2))];rw[d2]at A;refine qn Tryz.func49 Tryz.call49 fun β hf=>?_;exact dq
  have d2':cw (.mk k n a s args B H)=true:=by simpa using d2
  rw[d2']at A;by_cases d3:200<s.length
  ·have e3:decide (((s.length:Nat):Int)>200)=true:=by simp;omega
   rw[NY _ _ _ _ _ _ _ _ (.inr (.inr d3))];refine qn Tryz.func49 Tryz.call49 fun β hf=>?_;exact dq
  have e3:decide (((s.length:Nat):Int)>200)=false:=by simp;omega
  have SV:bK (.mk k n a s args B H) (.mk k ts)=Yi k n a args B (.mk k ts):=Ui _ _ _ _ _ _ _ _ (by rintro(h|h|h);exact h rfl;exact d2 h;exact d3 h);rw[SV];obtain⟨Lz,D⟩:=iH hb;simp only[bR,aA]at Lz D;have W:cw (.mk k n a s args B H)=true:=d2';rw[Lt]at W;clear SV d2 d2' d3;by_cases c:k=1
  ·subst c;show bh _ _ _ _ (.bool (decide (n=0/\args.length=0)));rw[<- az];refine qn Tryz.func49 Tryz.call49 fun β hf=>?_
   repeat' (first|refine sz ?_|(refine zc ?_ ?_<;>intro h<;>first|(cases h;done)|rw[h]|skip)|refine uC rfl A ?_|((first|refine zt ?_|refine zu ?_ ?_)<;>intro h<;>(fail_if_success (cases h;done))<;>rw[h]))
   all_goals
    show(_:CV)=_;clear hf A O W;refine congrArg CV.bool ?_;generalize (aa args).length=L at *;rw[Bool.eq_iff_iff]
    (try simp_all [bP])<;>(try omega)
  by_cases c:k=6
  ·subst c;show bh _ _ _ _ (.bool (decide (n=0/\args.length=0)));rw[<- az];refine qn Tryz.func49 Tryz.call49 fun β hf=>?_
   repeat' (first|refine sz ?_|(refine zc ?_ ?_<;>intro h<;>first|(cases h;done)|rw[h]|skip)|refine uC rfl A ?_|((first|refine zt ?_|refine zu ?_ ?_)<;>intro h<;>(fail_if_success (cases h;done))<;>rw[h]))
   all_goals
    show(_:CV)=_;clear hf A O W;refine congrArg CV.bool ?_;generalize (aa args).length=L at *;rw[Bool.eq_iff_iff]
    (try simp_all [bP])<;>(try omega)
  by_cases c:k=2
  ·subst c;show bh _ _ _ _ (.bool (decide (0<=n/\n<=1/\args.length=0)));rw[<- az];refine qn Tryz.func49 Tryz.call49 fun β hf=>?_
   repeat' (first|refine sz ?_|(refine zc ?_ ?_<;>intro h<;>first|(cases h;done)|rw[h]|skip)|refine uC rfl A ?_|((first|refine zt ?_|refine zu ?_ ?_)<;>intro h<;>(fail_if_success (cases h;done))<;>rw[h]))
   all_goals
    show(_:CV)=_;clear hf A O W;refine congrArg CV.bool ?_;generalize (aa args).length=L at *;rw[Bool.eq_iff_iff]
    (try simp_all [bP])<;>(try omega)
  by_cases c:k=3
  ·subst c;show bh _ _ _ _ (.bool (decide (-bP<=n/\n<=bP/\args.length=0)));have h1:=je n;rw[zO]at h1;rw[<- az];refine qn Tryz.func49 Tryz.call49 fun β hf=>?_
   repeat' (first|refine sz ?_|(refine zc ?_ ?_<;>intro h<;>first|(cases h;done)|rw[h]|skip)|refine uC rfl A ?_|refine uC rfl h1 ?_|((first|refine zt ?_|refine zu ?_ ?_)<;>intro h<;>(fail_if_success (cases h;done))<;>rw[h]))
   all_goals
    show(_:CV)=_;clear hf A O W h1;refine congrArg CV.bool ?_;generalize (aa args).length=L at *;rw[Bool.eq_iff_iff]
    (try simp_all [bP])<;>(try omega)
  by_cases c:k=4
  ·subst c;show bh _ _ _ _ (.bool (decide (0<=n/\n<=bP/\args.length=0)));have h1:=je n;rw[zO]at h1;rw[<- az];refine qn Tryz.func49 Tryz.call49 fun β hf=>?_
   repeat' (first|refine sz ?_|(refine zc ?_ ?_<;>intro h<;>first|(cases h;done)|rw[h]|skip)|refine uC rfl A ?_|refine uC rfl h1 ?_|((first|refine zt ?_|refine zu ?_ ?_)<;>intro h<;>(fail_if_success (cases h;done))<;>rw[h]))
   all_goals
    show(_:CV)=_;clear hf A O W h1;refine congrArg CV.bool ?_;generalize (aa args).length=L at *;rw[Bool.eq_iff_iff]
    (try simp_all [bP])<;>(try omega)
  by_cases c:k=5
  ·subst c;show bh _ _ _ _ (.bool (decide (0<=n/\n<=bP/\args.length=0)));have h1:=je n;rw[zO]at h1;rw[<- az];refine qn Tryz.func49 Tryz.call49 fun β hf=>?_
   repeat' (first|refine sz ?_|(refine zc ?_ ?_<;>intro h<;>first|(cases h;done)|rw[h]|skip)|refine uC rfl A ?_|refine uC rfl h1 ?_|((first|refine zt ?_|refine zu ?_ ?_)<;>intro h<;>(fail_if_success (cases h;done))<;>rw[h]))
   all_goals
    show(_:CV)=_;clear hf A O W h1;refine congrArg CV.bool ?_;generalize (aa args).length=L at *;rw[Bool.eq_iff_iff]
    (try simp_all [bP])<;>(try omega)
  by_cases c:k=7
  ·subst c;show bh _ _ _ _ (.bool (decide (0<=n/\n<12/\args.length=0)));have h1:=rJ n;rw[<- az];refine qn Tryz.func49 Tryz.call49 fun β hf=>?_
   repeat' (first|refine sz ?_|(refine zc ?_ ?_<;>intro h<;>first|(cases h;done)|rw[h]|skip)|refine uC rfl A ?_|refine uC rfl h1 ?_|((first|refine zt ?_|refine zu ?_ ?_)<;>intro h<;>(fail_if_success (cases h;done))<;>rw[h]))
   all_goals
    show(_:CV)=_;clear hf A O W h1;refine congrArg CV.bool ?_;generalize (aa args).length=L at *;rw[Bool.eq_iff_iff]
    (try simp_all [bP])<;>(try omega)
  by_cases c:k=9
  ·subst c;show bh _ _ _ _ (.bool (decide (n=0/\args.length<=1)&&aR args (aE (.mk 9 ts) 0)));obtain⟨u,rfl⟩:=Lv (show ts.length=1 by(have:arity 9=1:=by decide);omega);show bh _ _ _ _ (.bool (decide (n=0/\args.length<=1)&&aR args u));have S:gm u=false:=dr D c9;have Q:bA u<=8589934593:=by have:=cz (l:=[u]) (x:=u) c9;omega
   have h1:=EB u args (fun x N=>O x N u S Q) bn;have g1:[u][0]?=some u:=rfl;obtain⟨U,us⟩:=u;refine qn Tryz.func49 Tryz.call49 fun β hf=>?_
   repeat' (first|refine sz ?_|(refine zc ?_ ?_<;>intro h<;>first|(cases h;done)|rw[h]|skip)|refine uC rfl A ?_|refine uC rfl h1 ?_|refine uI rfl (0) rfl (fH g1) rfl ?_|((first|refine zt ?_|refine zu ?_ ?_)<;>intro h<;>(fail_if_success (cases h;done))<;>rw[h]))
   all_goals
    show(_:CV)=_;clear hf A O W h1
    (try simp_all [az])<;>(try omega)
  by_cases c:k=10
  ·subst c;show bh _ _ _ _ (.bool (decide (n=0/\args.length<=24)&&aR args (aE (.mk 10 ts) 0)));obtain⟨u,rfl⟩:=Lv (show ts.length=1 by(have:arity 10=1:=by decide);omega);show bh _ _ _ _ (.bool (decide (n=0/\args.length<=24)&&aR args u));have S:gm u=false:=dr D c9;have Q:bA u<=8589934593:=by have:=cz (l:=[u]) (x:=u) c9;omega
   have h1:=EB u args (fun x N=>O x N u S Q) bn;have g1:[u][0]?=some u:=rfl;obtain⟨U,us⟩:=u;refine qn Tryz.func49 Tryz.call49 fun β hf=>?_
   repeat' (first|refine sz ?_|(refine zc ?_ ?_<;>intro h<;>first|(cases h;done)|rw[h]|skip)|refine uC rfl A ?_|refine uC rfl h1 ?_|refine uI rfl (0) rfl (fH g1) rfl ?_|((first|refine zt ?_|refine zu ?_ ?_)<;>intro h<;>(fail_if_success (cases h;done))<;>rw[h]))
   all_goals
    show(_:CV)=_;clear hf A O W h1
    (try simp_all [az])<;>(try omega)
  by_cases c:k=11
  ·subst c;show bh _ _ _ _ (.bool (decide (n=0/\args.length=2)&&cW args ts));obtain⟨u,Y,rfl⟩:=BA (show ts.length=2 by(have:arity 11=2:=by decide);omega);by_cases K:args.length=2
   ·obtain⟨x,y,rfl⟩:=V3 K;have S:gm u=false:=dr D c9;have hu':gm Y=false:=dr D c9;have Q:bA u<=8589934593:=by have:=cz (l:=[u,Y]) (x:=u) c9;omega
    have V5:bA Y<=8589934593:=by have:=cz (l:=[u,Y]) (x:=Y) c9;omega
    have h1:=O x c9 u S Q;have h2:=O y c9 Y hu' V5;have g1:[u,Y][0]?=some u:=rfl;have I:[u,Y][1]?=some Y:=rfl;have J:[x,y][0]?=some x:=rfl;have g4:[x,y][1]?=some y:=rfl;have P:(decide (n=0/\[x,y].length=2)&&cW [x,y] [u,Y])=(decide (n=0)&&(bK x u&&bK y Y)):=by
     rw[show cW [x,y] [u,Y]=(bK x u&&bK y Y)from by unfold cW;unfold cW;unfold cW;simp];simp
    rw[P];clear P W;generalize bK x u=G at h1;generalize bK y Y=b2 at h2;obtain⟨U,us⟩:=u;obtain⟨U',us'⟩:=Y;obtain⟨x1,E,x3,x4,x5,x6,x7⟩:=x;obtain⟨y1,y2,y3,y4,y5,y6,y7⟩:=y;refine qn Tryz.func49 Tryz.call49 fun β hf=>?_
    repeat' (first|refine sz ?_|(refine zc ?_ ?_<;>intro h<;>first|(cases h;done)|rw[h]|skip)|refine uC rfl A ?_|refine uC rfl h1 ?_|refine uC rfl h2 ?_|refine uI rfl (0) rfl (fH g1) rfl ?_|refine uI rfl (1) rfl (fH I) rfl ?_|refine uI rfl (0) rfl (ez J) rfl ?_|refine uI rfl (1) rfl (ez g4) rfl ?_|((first|refine zt ?_|refine zu ?_ ?_)<;>intro h<;>(fail_if_success (cases h;done))<;>rw[h]))
    all_goals
     show(_:CV)=_;clear hf A O h1 h2;simp_all [az]
     try (intro EH;cases G<;>simp_all)
   ·have P:((((aa args).length:Nat):Int)==2)=false:=by rw[az];simp;omega
    refine qn Tryz.func49 Tryz.call49 fun β hf=>?_
    repeat' (first|refine sz ?_|(refine zc ?_ ?_<;>intro h<;>first|(cases h;done)|rw[h]|skip)|refine uC rfl A ?_|((first|refine zt ?_|refine zu ?_ ?_)<;>intro h<;>(fail_if_success (cases h;done))<;>rw[h]))
    all_goals
     show(_:CV)=_;clear hf A O W;simp_all
  by_cases c:k=12
  ·subst c;show bh _ _ _ _ (.bool (decide (0<=n/\n<=1/\args.length=1)&&aR args (aE (.mk 12 ts) n.toNat)));obtain⟨u,Y,rfl⟩:=BA (show ts.length=2 by(have:arity 12=2:=by decide);omega);by_cases K:args.length=1
   ·obtain⟨x,rfl⟩:=NX K;have S:gm u=false:=dr D c9;have hu':gm Y=false:=dr D c9;have Q:bA u<=8589934593:=by have:=cz (l:=[u,Y]) (x:=u) c9;omega
    have V5:bA Y<=8589934593:=by have:=cz (l:=[u,Y]) (x:=Y) c9;omega
    have h1:=O x c9 u S Q;have h2:=O x c9 Y hu' V5;have g1:[u,Y][0]?=some u:=rfl;have I:[u,Y][1]?=some Y:=rfl;have J:[x][0]?=some x:=rfl;have ev:∀w,aR [x] w=bK x w:=fun w=>by unfold aR;unfold aR;simp
    rw[ev];clear ev W;by_cases n0:n=0
    ·subst n0;show bh _ _ _ _ (.bool (decide ((0:Int)<=0/\(0:Int)<=1/\[x].length=1)&&bK x u));clear h2;generalize bK x u=G at h1;obtain⟨U,us⟩:=u;obtain⟨x1,E,x3,x4,x5,x6,x7⟩:=x;refine qn Tryz.func49 Tryz.call49 fun β hf=>?_
     repeat' (first|refine sz ?_|(refine zc ?_ ?_<;>intro h<;>first|(cases h;done)|rw[h]|skip)|refine uC rfl A ?_|refine uC rfl h1 ?_|refine uI rfl (0) rfl (fH g1) rfl ?_|refine uI rfl (0) rfl (ez J) rfl ?_|((first|refine zt ?_|refine zu ?_ ?_)<;>intro h<;>(fail_if_success (cases h;done))<;>rw[h]))
     all_goals
      show(_:CV)=_;clear hf A O h1;simp_all [az]
    by_cases n1:n=1
    ·subst n1;show bh _ _ _ _ (.bool (decide ((0:Int)<=1/\(1:Int)<=1/\[x].length=1)&&bK x Y));clear h1;generalize bK x Y=G at h2;obtain⟨U,us⟩:=Y;obtain⟨x1,E,x3,x4,x5,x6,x7⟩:=x;refine qn Tryz.func49 Tryz.call49 fun β hf=>?_
     repeat' (first|refine sz ?_|(refine zc ?_ ?_<;>intro h<;>first|(cases h;done)|rw[h]|skip)|refine uC rfl A ?_|refine uC rfl h2 ?_|refine uI rfl (1) rfl (fH I) rfl ?_|refine uI rfl (0) rfl (ez J) rfl ?_|((first|refine zt ?_|refine zu ?_ ?_)<;>intro h<;>(fail_if_success (cases h;done))<;>rw[h]))
     all_goals
      show(_:CV)=_;clear hf A O h2;simp_all [az]
    ·rw[show decide (0<=n/\n<=1/\[x].length=1)=false from by simp;omega,Bool.false_and];by_cases n2:n<0
     ·have P:decide (n>=0)=false:=by simp;omega
      refine qn Tryz.func49 Tryz.call49 fun β hf=>?_;exact dq
     ·have P:decide (n>=0)=true:=by simp;omega
      have e6:decide (n<=1)=false:=by simp;omega
      refine qn Tryz.func49 Tryz.call49 fun β hf=>?_;exact dq
   ·have P:((((aa args).length:Nat):Int)==1)=false:=by rw[az];simp;omega
    refine qn Tryz.func49 Tryz.call49 fun β hf=>?_
    repeat' (first|refine sz ?_|(refine zc ?_ ?_<;>intro h<;>first|(cases h;done)|rw[h]|skip)|refine uC rfl A ?_|((first|refine zt ?_|refine zu ?_ ?_)<;>intro h<;>(fail_if_success (cases h;done))<;>rw[h]))
    all_goals
     show(_:CV)=_;clear hf A O W;simp_all
  by_cases c:k=13
  ·subst c;show bh _ _ _ _ (.bool (decide (n=0/\args.length<=24)&&oY (.mk 11 ts) none args));by_cases n0:n=0;rotate_left
   ·have P:(n != 0)=true:=by simpa using n0
    rw[show decide (n=0/\args.length<=24)=false from by simp[n0],Bool.false_and];refine qn Tryz.func49 Tryz.call49 fun β hf=>?_;exact dq
   subst n0;by_cases K:args.length<=24;rotate_left
   ·have P:decide ((((aa args).length:Nat):Int)>24)=true:=by rw[az];simp;omega
    rw[show decide ((0:Int)=0/\args.length<=24)=false from by simp;omega,Bool.false_and];refine qn Tryz.func49 Tryz.call49 fun β hf=>?_;exact dq
   have P:decide ((((aa args).length:Nat):Int)>24)=false:=by rw[az];simp;omega
   rw[show decide ((0:Int)=0/\args.length<=24)=true from by simp[K],Bool.true_and];obtain⟨u,Y,rfl⟩:=BA (show ts.length=2 by(have:arity 13=2:=by decide);omega);have S:gm u=false:=dr D c9;have WQ:gm (.mk 11 [u,Y])=false:=by
    simp only[gm,Bool.or_eq_false_iff];exact⟨by show decide (arity 11≠2)=false;decide,D⟩
   have hps:bA (.mk 11 [u,Y])<=8589934593:=by simp only[bA];omega
   clear W;refine qn Tryz.func49 Tryz.call49 fun β hf=>?_
   repeat' (first|refine sz ?_|(refine zc ?_ ?_<;>intro h<;>first|(cases h;done)|rw[h]|skip)|refine uC rfl A ?_|((first|refine zt ?_|refine zu ?_ ?_)<;>intro h<;>(fail_if_success (cases h;done))<;>rw[h]))
   refine AK.eK (α:=Nat) (fun i=>i<=args.length/\oY (.mk 11 [u,Y]) none args=oY (.mk 11 [u,Y]) (pre args i) (args.drop i)/\∀p,pre args i=some p->p∈args/\bK p (.mk 11 [u,Y])=true) (fun i=>args.length-i)
    (fun i=>[(192,.c (.int .i64 i)),(191,.c (.int .i64 (aa args).length)),(190,.c (.sl 7 (aa args))),(2,.ptr 2 0),(3,.ptr 3 0)])
    (fun _=>[(2,[.c (.int .i64 13),.c (.sl 2 (aq [u,Y]))]),(3,[.c (.int .i64 13),.c (.int .i64 0),.c (.int .i64 a),.c (.str s),.c (.sl 7 (aa args)),.c (.sl 2 (aq B)),.c (.sl 5 (aI H))])]) (fun _=>[]) [2,3] 0
    ⟨bn,rfl,fun p h=>by simp[pre]at h⟩ ⟨.inl rfl,.inl rfl,.inl rfl,.inl rfl,.inl rfl,trivial⟩ ⟨rfl,rfl,trivial⟩ trivial rfl rfl rfl ?_
   rintro i ⟨hi,C,hpre⟩ ih;rcases fT args i hi with ⟨x,N,hm⟩|he
   ·have hc:=xD N;have hq:=O x hm _ WQ hps;have hlt:=bB N;rw[dV N]at C;have X7:pre args (i+1)=some x:=by simp only[pre,Nat.add_one_ne_zero,if_false,Nat.add_sub_cancel];exact N
    by_cases Yj:bK x (.mk 11 [u,Y])=true;rotate_left
    ·have hxf:bK x (.mk 11 [u,Y])=false:=by simpa using Yj
     rw[hxf]at hq;have h0:oY (.mk 11 [u,Y]) none args=false:=by
      rw[C];cases pre args i<;>simp only[vP,vO,hxf,Bool.false_and]
     rw[h0];clear C h0;obtain⟨x1,E,x3,x4,x5,x6,x7⟩:=x;have ug:=ez N;exact dq
    ·rw[Yj]at hq;obtain⟨E,x3,x4,x6,x7,V,xv,rfl,hxk,hxv⟩:=WS Yj;by_cases i0:i=0
     ·subst i0;have hinv':oY (.mk 11 [u,Y]) none args=oY (.mk 11 [u,Y]) (some (.mk 11 E x3 x4 [V,xv] x6 x7)) (args.drop 1):=by
       rw[C];simp only[pre,if_true,vO,Yj,Bool.true_and]
      repeat' (first|refine sz ?_|(refine zc ?_ ?_<;>intro h<;>first|(cases h;done)|rw[h]|skip)|refine uI rfl (0) rfl (ez N) rfl ?_|refine uC rfl hq ?_|((first|refine zt ?_|refine zu ?_ ?_)<;>intro h<;>(fail_if_success (cases h;done))<;>rw[h]))
      refine AK.again (ih 1 ⟨hlt,?_,?_⟩ bn) ⟨.inl rfl,.inl rfl,.inl rfl,.inl rfl,.inl rfl,trivial⟩ ⟨rfl,rfl,trivial⟩ trivial rfl rfl rfl
      ·rw[hinv',X7]
      ·intro p A;rw[X7]at A;cases A;exact⟨hm,Yj⟩
     ·have ei:decide (((i:Nat):Int)>0)=true:=by simp;omega
      obtain⟨p,YI⟩:∃p,args[i-1]?=some p:=⟨args[i-1]' bn,c9⟩
      have hpi:pre args i=some p:=by simp only[pre,if_neg i0];exact YI
      obtain⟨hpm,hph⟩:=hpre p hpi;have I4:IntKind.i64.wrap (((i:Nat):Int)-1)=((i-1:Nat):Int):=by rw[gW bn bn];omega
      have adt:=dO hpm;obtain⟨p2,p3,p4,p6,p7,q,pv,rfl,hpk,hpv⟩:=WS hph;have hcq:=nY q V u S hpk hxk (by simp only[aM,aJ]at adt;omega);have M:oY (.mk 11 [u,Y]) none args=(decide (dx q V<0)&&oY (.mk 11 [u,Y]) (some (.mk 11 E x3 x4 [V,xv] x6 x7)) (args.drop (i+1))):=by
       rw[C,hpi];rw[vP];rw[Yj,Bool.true_and];rfl
      have g1:[q,pv][0]?=some q:=rfl;have I:[V,xv][0]?=some V:=rfl;by_cases hcm:dx q V<0
      ·have ec:decide (dx q V>=0)=false:=by simp;omega
       rw[show decide (dx q V<0)=true from by simpa using hcm,Bool.true_and]at M;obtain⟨a1,a2,a3,a4,a5,a6,a7⟩:=V;obtain⟨G,b2,b3,b4,b5,b6,b7⟩:=q
       repeat' (first|refine sz ?_|(refine zc ?_ ?_<;>intro h<;>first|(cases h;done)|rw[h]|skip)|refine uI rfl (i) rfl (ez N) rfl ?_|refine uC rfl hq ?_|refine ai.index Tryz.hX rfl rfl rfl rfl rfl rfl rfl rfl rfl rfl (i-1) I4 (ez YI) rfl ?_|refine uI rfl (0) rfl (ez g1) rfl ?_|refine uI rfl (0) rfl (ez I) rfl ?_|refine uC rfl hcq ?_|((first|refine zt ?_|refine zu ?_ ?_)<;>intro h<;>(fail_if_success (cases h;done))<;>rw[h]))
       refine AK.again (ih (i+1) ⟨hlt,?_,?_⟩ bn) ⟨.inl (iE bn),.inl rfl,.inl rfl,.inl rfl,.inl rfl,trivial⟩ ⟨rfl,rfl,trivial⟩ trivial rfl rfl rfl
       ·rw[M,X7]
       ·intro p A;rw[X7]at A;cases A;exact⟨hm,Yj⟩
      ·have ec:decide (dx q V>=0)=true:=by simp;omega
       rw[show decide (dx q V<0)=false from by simpa using hcm,Bool.false_and]at M;rw[M];clear M C;obtain⟨a1,a2,a3,a4,a5,a6,a7⟩:=V;obtain⟨G,b2,b3,b4,b5,b6,b7⟩:=q
       repeat' (first|refine sz ?_|(refine zc ?_ ?_<;>intro h<;>first|(cases h;done)|rw[h]|skip)|refine uI rfl (i) rfl (ez N) rfl ?_|refine uC rfl hq ?_|refine ai.index Tryz.hX rfl rfl rfl rfl rfl rfl rfl rfl rfl rfl (i-1) I4 (ez YI) rfl ?_|refine uI rfl (0) rfl (ez g1) rfl ?_|refine uI rfl (0) rfl (ez I) rfl ?_|refine uC rfl hcq ?_|((first|refine zt ?_|refine zu ?_ ?_)<;>intro h<;>(fail_if_success (cases h;done))<;>rw[h]))
       all_goals rfl
   ·have hc:=sU he;have h0:oY (.mk 11 [u,Y]) none args=true:=by
     rw[C,he,List.drop_length];exact Uh _ _
    rw[h0];clear ih;exact dq
  by_cases c:k=14
  ·subst c;show bh _ _ _ _ (.bool (cP (aE (.mk 14 ts) 0) (B.getD 0 lA)&&cP (aE (.mk 14 ts) 1) (B.getD 1 lA)));obtain⟨u,Y,rfl⟩:=BA (show ts.length=2 by(have:arity 14=2:=by decide);omega)
   obtain⟨w,w',rfl⟩:=BA (show B.length=2 by
    have h:decide (B.length=2/\a=0/\n=0/\s=[]/\args.length=0)=true:=W
    simp only[decide_eq_true_eq]at h;exact h.1)
   show bh _ _ _ _ (.bool (cP u w&&cP Y w'));have Q:bA u<=8589934593:=by have:=cz (l:=[u,Y]) (x:=u) c9;omega
   have V5:bA Y<=8589934593:=by have:=cz (l:=[u,Y]) (x:=Y) c9;omega
   have h1:=gF u w bn;have h2:=gF Y w' bn;have g1:[u,Y][0]?=some u:=rfl;have I:[u,Y][1]?=some Y:=rfl;have J:[w,w'][0]?=some w:=rfl;have g4:[w,w'][1]?=some w':=rfl;generalize cP u w=G at h1;generalize cP Y w'=b2 at h2;clear W;obtain⟨u1,u2⟩:=u;obtain⟨u3,u4⟩:=Y;obtain⟨w1,w2⟩:=w;obtain⟨w3,w4⟩:=w';refine qn Tryz.func49 Tryz.call49 fun β hf=>?_
   repeat' (first|refine sz ?_|(refine zc ?_ ?_<;>intro h<;>first|(cases h;done)|rw[h]|skip)|refine uC rfl A ?_|refine uC rfl h1 ?_|refine uC rfl h2 ?_|refine uI rfl (0) rfl (fH g1) rfl ?_|refine uI rfl (1) rfl (fH I) rfl ?_|refine uI rfl (0) rfl (fH J) rfl ?_|refine uI rfl (1) rfl (fH g4) rfl ?_|((first|refine zt ?_|refine zu ?_ ?_)<;>intro h<;>(fail_if_success (cases h;done))<;>rw[h]))
   all_goals
    show(_:CV)=_;clear hf A O h1 h2;simp_all
  by_cases c:k=15
  ·subst c;show bh _ _ _ _ (.bool (decide (1<=n/\n<=bP/\0<=a/\a<12/\args.length=1)&&aR args (aE (.mk 15 ts) 0)));obtain⟨u,rfl⟩:=Lv (show ts.length=1 by(have:arity 15=1:=by decide);omega);have h1:=je n;rw[zO]at h1;have h2:=rJ a;by_cases K:args.length=1
   ·obtain⟨x,rfl⟩:=NX K;have S:gm u=false:=dr D c9;have Q:bA u<=8589934593:=by have:=cz (l:=[u]) (x:=u) c9;omega
    have h3:=O x c9 u S Q;have g1:[u][0]?=some u:=rfl;have J:[x][0]?=some x:=rfl;rw[show aR [x] (aE (.mk 15 [u]) 0)=bK x u from by unfold aR;unfold aR;simp[aE,aA]];generalize bK x u=G at h3;obtain⟨U,us⟩:=u;obtain⟨x1,E,x3,x4,x5,x6,x7⟩:=x;refine qn Tryz.func49 Tryz.call49 fun β hf=>?_
    repeat' (first|refine sz ?_|(refine zc ?_ ?_<;>intro h<;>first|(cases h;done)|rw[h]|skip)|refine uC rfl A ?_|refine uC rfl h1 ?_|refine uC rfl h2 ?_|refine uC rfl h3 ?_|refine uI rfl (0) rfl (fH g1) rfl ?_|refine uI rfl (0) rfl (ez J) rfl ?_|((first|refine zt ?_|refine zu ?_ ?_)<;>intro h<;>(fail_if_success (cases h;done))<;>rw[h]))
    all_goals
     show(_:CV)=_;clear hf A O h1 h2 h3 W
     (try simp_all [bP,az])<;>(try omega)
   ·have P:((((aa args).length:Nat):Int)==1)=false:=by rw[az];simp;omega
    refine qn Tryz.func49 Tryz.call49 fun β hf=>?_
    repeat' (first|refine sz ?_|(refine zc ?_ ?_<;>intro h<;>first|(cases h;done)|rw[h]|skip)|refine uC rfl A ?_|refine uC rfl h1 ?_|refine uC rfl h2 ?_|((first|refine zt ?_|refine zu ?_ ?_)<;>intro h<;>(fail_if_success (cases h;done))<;>rw[h]))
    all_goals
     show(_:CV)=_;clear hf A O h1 h2 W;simp_all
  by_cases c:k=8
  ·subst c;show bh _ _ _ _ (.bool (decide (0<=n/\n<=bP/\0<=a/\a<12/\args.length=1)&&bw (B.getD 0 lA)&&aR args (B.getD 0 lA)))
   obtain⟨u,rfl⟩:=Lv (show B.length=1 by
    have h:decide (B.length=1/\H.length=0/\s=[])=true:=W
    simp only[decide_eq_true_eq]at h;exact h.1)
   have h1:=je n;rw[zO]at h1;have h2:=rJ a;by_cases K:args.length=1
   ·obtain⟨x,rfl⟩:=NX K;have Q:bA u<=8589934593:=by have:=cz (l:=[u]) (x:=u) c9;omega
    have hg:=nA u Q;have g1:[u][0]?=some u:=rfl;have J:[x][0]?=some x:=rfl;rw[show aR [x] ([u].getD 0 lA)=bK x u from by unfold aR;unfold aR;simp];rw[aaA];by_cases hgd:bw u=true
    ·have h3:=O x c9 u (mo hgd) Q;rw[hgd]at hg ⊢;generalize bK x u=G at h3;obtain⟨U,us⟩:=u;obtain⟨x1,E,x3,x4,x5,x6,x7⟩:=x;refine qn Tryz.func49 Tryz.call49 fun β hf=>?_
     repeat' (first|refine sz ?_|(refine zc ?_ ?_<;>intro h<;>first|(cases h;done)|rw[h]|skip)|refine uC rfl A ?_|refine uC rfl h1 ?_|refine uC rfl h2 ?_|refine uC rfl hg ?_|refine uC rfl h3 ?_|refine uI rfl (0) rfl (fH g1) rfl ?_|refine uI rfl (0) rfl (ez J) rfl ?_|((first|refine zt ?_|refine zu ?_ ?_)<;>intro h<;>(fail_if_success (cases h;done))<;>rw[h]))
     all_goals
      show(_:CV)=_;clear hf A O h1 h2 h3 hg W
      (try simp_all [bP,az])<;>(try omega)
    ·have hgf:bw u=false:=by simpa using hgd
     rw[hgf]at hg ⊢;obtain⟨U,us⟩:=u;refine qn Tryz.func49 Tryz.call49 fun β hf=>?_
     repeat' (first|refine sz ?_|(refine zc ?_ ?_<;>intro h<;>first|(cases h;done)|rw[h]|skip)|refine uC rfl A ?_|refine uC rfl h1 ?_|refine uC rfl h2 ?_|refine uC rfl hg ?_|refine uI rfl (0) rfl (fH g1) rfl ?_|((first|refine zt ?_|refine zu ?_ ?_)<;>intro h<;>(fail_if_success (cases h;done))<;>rw[h]))
     all_goals
      show(_:CV)=_;clear hf A O h1 h2 hg W;simp_all [bP]
   ·have P:((((aa args).length:Nat):Int)==1)=false:=by rw[az];simp;omega
    refine qn Tryz.func49 Tryz.call49 fun β hf=>?_
    repeat' (first|refine sz ?_|(refine zc ?_ ?_<;>intro h<;>first|(cases h;done)|rw[h]|skip)|refine uC rfl A ?_|refine uC rfl h1 ?_|refine uC rfl h2 ?_|((first|refine zt ?_|refine zu ?_ ?_)<;>intro h<;>(fail_if_success (cases h;done))<;>rw[h]))
    all_goals
     show(_:CV)=_;clear hf A O h1 h2 W;simp_all
  exfalso;have:=Lw Lz;omega
termination_by v=>SizeOf.sizeOf v
decreasing_by
 have:=List.sizeOf_lt_of_mem N;simp at this ⊢;omega
end Go.Proofs
