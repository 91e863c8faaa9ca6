/- What each and has of package value answer. -/
import Derived.Test.YtdnpapgijbhofaaGreatDoorVal2Rt
import Derived.Test.YtdnpapgijbhofaaGreatDoorChk3Rt
import Derived.Test.YtdnpapgijbhofaaGreatDoorTPureRt
open Go.IntKind
open Go.Proofs.Tryz
set_option linter.defProp false
set_option maxHeartbeats 0
set_option linter.unusedVariables false
set_option linter.unusedSimpArgs false
set_option maxRecDepth 100000
namespace Go.Proofs
open Go.cB
def Bv(t:Ty):∀(l:L Vl),(!(l.any λx => !bz x t))=aJ l t
 |[]=>rfl
 |x::l=>by simp only[aJ,<- Bv t l,adt];cases bz x t<;>simp
def Yf:L Vl->Bool
 |[]=>true
 |[_]=>true
 |x::y::l=>decide (de (lH x) (lH y)<0)&&Yf (y::l)
def Ud:∀l:L Vl,xX l=Yf l
 |[]=>rfl
 |[_]=>rfl
 |x::y::l=>by have:=Ud (y::l);simp only[Yf,<- this];rfl
def oR(t:Ty):Option Vl->L Vl->Bool
 |_,[]=>true
 |none,x::l=>bz x t&&oR t (some x) l
 |some p,x::l=>bz x t&&(decide (de (lH p) (lH x)<0)&&oR t (some x) l)
def Gq(t:Ty):∀(l:L Vl)(p:Vl),oR t (some p) l=(aJ l t&&Yf (p::l))
 |[],p=>by simp[oR,aJ,Yf]
 |x::l,p=>by simp only[oR,aJ,Yf,Gq t l x];grind
def Qv(t:Ty)(l:L Vl):oR t none l=(aJ l t&&xX l):=by
 rw[Ud];cases l with
 |nil=>rfl
 |cons x l =>
  simp only[oR,aJ,Gq];grind
def Ue(t:Ty)(p:Option Vl):oR t p []=true:=by cases p<;>rfl
def vl(t:Ty)(x:Vl)(l:L Vl):oR t none (x::l)=(bz x t&&oR t (some x) l):=rfl
def vm(t:Ty)(p x:Vl)(l:L Vl):oR t (some p) (x::l)=(bz x t&&(decide (de (lH p) (lH x)<0)&&oR t (some x) l)):=rfl
def NW(k n a:Int)(s:L UInt8)(args:L Vl)(types:L Ty)(H:L Nd)(t:Ty)(h:k≠cq t\/bX (.mk k n a s args types H)=false\/200<s.length):bz (.mk k n a s args types H) t=false:=by simp only[bz,if_pos h]
def Uf(k n a:Int)(s:L UInt8)(args:L Vl)(types:L Ty)(H:L Nd)(t:Ty)(h:¬(k≠cq t\/bX (.mk k n a s args types H)=false\/200<s.length)):bz (.mk k n a s args types H) t =
  (if k=1\/k=6 then decide (n=0/\args.length=0)
  else if k=2 then decide (0<=n/\n<=1/\args.length=0)
  else if k=3 then decide (-bF<=n/\n<=bF/\args.length=0)
  else if k=4\/k=5 then decide (0<=n/\n<=bF/\args.length=0)
  else if k=7 then decide (0<=n/\n<12/\args.length=0)
  else if k=9 then decide (n=0/\args.length<=1)&&aJ args (aG t 0)
  else if k=10 then decide (n=0/\args.length<=24)&&aJ args (aG t 0)
  else if k=11 then decide (n=0/\args.length=2)&&cL args (aK t)
  else if k=12 then decide (0<=n/\n<=1/\args.length=1)&&aJ args (aG t n.toNat)
  else if k=13 then decide (n=0/\args.length<=24)&&oR (.mk 11 (aK t)) none args
  else if k=14 then cw (aG t 0) (types.getD 0 iY)&&cw (aG t 1) (types.getD 1 iY)
  else if k=15 then decide (1<=n/\n<=bF/\0<=a/\a<12/\args.length=1)&&aJ args (aG t 0)
  else if k=8 then decide (0<=n/\n<=bF/\0<=a/\a<12/\args.length=1)&&bg (types.getD 0 iY)&&aJ args (types.getD 0 iY)
  else false):=by
 simp only[bz,if_neg h,Qv,adT]
attribute [local irreducible] AK ai aR bW de iL bz aJ cL O4 IP cw gO Cs zj tN eA bX oR Yf xX bg
def Ek(t:Ty)(l:L Vl)(D:∀x∈l,af 72 [dA t,bA x] (.bool (bz x t)))(K:l.length<=1099511627776) :
  af 94 [dA t,.sl 7 (aa l)] (.bool (aJ l t)):=by
 obtain⟨T,ts⟩:=t;have O:∀x∈l,af 111 (bA x::[.ip [.int .i64 T,.sl 2 (aj ts)]]) (.bool (!bz x (.mk T ts))):=by intro x N;have Y:=D x N;obtain⟨P,B,W,U,J,A,C⟩:=x;exact qdq func111 call111
 have hq:=rN l (λx => !bz x (.mk T ts)) 111 [.ip [.int .i64 T,.sl 2 (aj ts)]] O K;rw[<- Bv];refine qn func94 call94 λβ hf=>?_;refine AK.seq ?_;refine AK.region mixed Z ?_
 repeat' (first|refine so ?_)
 refine AK.freeze 2 Z Z Z Z ?_;exact dq
def Yg(k n a:Int)(args:L Vl)(types:L Ty)(t:Ty):Bool :=
  if k=1\/k=6 then decide (n=0/\args.length=0)
  else if k=2 then decide (0<=n/\n<=1/\args.length=0)
  else if k=3 then decide (-bF<=n/\n<=bF/\args.length=0)
  else if k=4\/k=5 then decide (0<=n/\n<=bF/\args.length=0)
  else if k=7 then decide (0<=n/\n<12/\args.length=0)
  else if k=9 then decide (n=0/\args.length<=1)&&aJ args (aG t 0)
  else if k=10 then decide (n=0/\args.length<=24)&&aJ args (aG t 0)
  else if k=11 then decide (n=0/\args.length=2)&&cL args (aK t)
  else if k=12 then decide (0<=n/\n<=1/\args.length=1)&&aJ args (aG t n.toNat)
  else if k=13 then decide (n=0/\args.length<=24)&&oR (.mk 11 (aK t)) none args
  else if k=14 then cw (aG t 0) (types.getD 0 iY)&&cw (aG t 1) (types.getD 1 iY)
  else if k=15 then decide (1<=n/\n<=bF/\0<=a/\a<12/\args.length=1)&&aJ args (aG t 0)
  else if k=8 then decide (0<=n/\n<=bF/\0<=a/\a<12/\args.length=1)&&bg (types.getD 0 iY)&&aJ args (types.getD 0 iY)
  else false
def zy(n:Int):tQ n=decide (-bF<=n/\n<=bF):=by unfold tQ;rw[abP];simp[bF]
def WH{x:Vl}{u M:Ty}(h:bz x (.mk 11 [u,M])=true):∃n a s types H y z,x = .mk 11 n a s [y,z] types H/\bz y u=true/\bz z M=true:=by
 obtain⟨k,n,a,s,args,types,H⟩:=x;obtain⟨h1,h2,U⟩:=oS h;have Y:k=11:=h1;subst Y;rw[Uf _ _ _ _ _ _ _ _ (by rintro(h|h|h);exact h h1;rw[h2]at h;cases h;omega)]at h;have P:(decide (n=0/\args.length=2)&&cL args [u,M])=true:=h;simp at P;obtain⟨y,z,rfl⟩:=VX P.1.2;have Q:(bz y u&&(bz z M&&cL [] []))=true:=by have:=P.2;unfold cL at this;unfold cL at this;exact this
 grind
def Lc{l:L Ty}(h:l.length=1):∃x,l=[x]:=by
 match l,h with
 |[x],_=>exact⟨x,Z⟩
def Ld{k:Int}{m:Nat}(h:arity k=(m:Int)):1<=k/\k<=15:=by unfold arity at h;split at h<;>omega
def aag(x:Ty)(l:L Ty)(d:Ty):(x::l).getD 0 d=x:=rfl
def kH{t:Ty}(h:bg t=true):fY t=false:=by
 cases A:fY t with
 |false=>rfl
 |true =>
  have h1:=D7 t 24 300 A;rw[Gd,h]at h1;cases h1
def pre(l:L Vl)(i:Nat):Option Vl:=if i=0 then none else l[i-1]?
def zK:∀(v:Vl)(t:Ty),fY t=false->aE v<=8589934593->bp t<=8589934593->af 72 [dA t,bA v] (.bool (bz v t))
 |.mk k n a s args types H,.mk T ts,hb,hv,ht=>by
  simp only[aE]at hv;simp only[bp]at ht;have Cf:=ga args;have O:∀x∈args,∀u,fY u=false->bp u<=8589934593->af 72 [dA u,bA x] (.bool (bz x u)):=λx N u h1 h2=>zK x u h1 R7 h2;have D:=Lt (.mk k n a s args types H);by_cases d1:k=T;rotate_left;have e1:(k != T)=true:=(by simpa using d1);rw[NW _ _ _ _ _ _ _ _ (.inl d1)];exact qdq func72 call72;subst d1;have e1:(k != k)=false:=by simp
  by_cases d2:bX (.mk k n a s args types H)=false;rw[NW _ _ _ _ _ _ _ _ (.inr (.inl d2))];rw[d2]at D;exact qdq func72 call72;have d2':bX (.mk k n a s args types H)=true:=by simpa using d2
  rw[d2']at D;by_cases d3:200<s.length;have e3:decide (((s.length:Nat):Int)>200)=true:=(by simp;omega);rw[NW _ _ _ _ _ _ _ _ (.inr (.inr d3))];exact qdq func72 call72;have e3:decide (((s.length:Nat):Int)>200)=false:=by simp;omega
  have Sy:bz (.mk k n a s args types H) (.mk k ts)=Yg k n a args types (.mk k ts):=Uf _ _ _ _ _ _ _ _ (by rintro(h|h|h);exact h rfl;exact d2 h;exact d3 h);rw[Sy];obtain⟨Lu,P⟩:=gH hb;simp only[cq,aK]at Lu P;have Y:bX (.mk k n a s args types H)=true:=d2';rw[Ls]at Y;clear Sy d2 d2' d3;by_cases c:k=1
  ·subst c;show aR _ _ _ _ (.bool (decide (n=0/\args.length=0)));rw[<- az];refine qn func72 call72 λβ hf=>?_
   repeat' (first|refine sz ?_|refine zc ?_ ?_|(intro h;first|(cases h;done)|rw[h]|skip)|refine uC Z D ?_)
   all_goals
    show(_:CV)=_;clear hf D O Y;refine aaZ CV.bool ?_;generalize (aa args).length=Ll at *;rw[abP]
    (try simp_all [bF])<;>(try omega)
  by_cases c:k=6
  ·subst c;show aR _ _ _ _ (.bool (decide (n=0/\args.length=0)));rw[<- az];refine qn func72 call72 λβ hf=>?_
   repeat' (first|refine sz ?_|refine zc ?_ ?_|(intro h;first|(cases h;done)|rw[h]|skip)|refine uC Z D ?_)
   all_goals
    show(_:CV)=_;clear hf D O Y;refine aaZ CV.bool ?_;generalize (aa args).length=Ll at *;rw[abP]
    (try simp_all [bF])<;>(try omega)
  by_cases c:k=2
  ·subst c;show aR _ _ _ _ (.bool (decide (0<=n/\n<=1/\args.length=0)));rw[<- az];refine qn func72 call72 λβ hf=>?_
   repeat' (first|refine sz ?_|refine zc ?_ ?_|(intro h;first|(cases h;done)|rw[h]|skip)|refine uC Z D ?_)
   all_goals
    show(_:CV)=_;clear hf D O Y;refine aaZ CV.bool ?_;generalize (aa args).length=Ll at *;rw[abP]
    (try simp_all [bF])<;>(try omega)
  by_cases c:k=3
  ·subst c;show aR _ _ _ _ (.bool (decide (-bF<=n/\n<=bF/\args.length=0)));have h1:=iS n;rw[zy]at h1;rw[<- az];refine qn func72 call72 λβ hf=>?_
   repeat' (first|refine sz ?_|refine zc ?_ ?_|(intro h;first|(cases h;done)|rw[h]|skip)|refine uC Z D ?_|refine uC Z h1 ?_)
   all_goals
    show(_:CV)=_;clear hf D O Y h1;refine aaZ CV.bool ?_;generalize (aa args).length=Ll at *;rw[abP]
    (try simp_all [bF])<;>(try omega)
  by_cases c:k=4
  ·subst c;show aR _ _ _ _ (.bool (decide (0<=n/\n<=bF/\args.length=0)));have h1:=iS n;rw[zy]at h1;rw[<- az];refine qn func72 call72 λβ hf=>?_
   repeat' (first|refine sz ?_|refine zc ?_ ?_|(intro h;first|(cases h;done)|rw[h]|skip)|refine uC Z D ?_|refine uC Z h1 ?_)
   all_goals
    show(_:CV)=_;clear hf D O Y h1;refine aaZ CV.bool ?_;generalize (aa args).length=Ll at *;rw[abP]
    (try simp_all [bF])<;>(try omega)
  by_cases c:k=5
  ·subst c;show aR _ _ _ _ (.bool (decide (0<=n/\n<=bF/\args.length=0)));have h1:=iS n;rw[zy]at h1;rw[<- az];refine qn func72 call72 λβ hf=>?_
   repeat' (first|refine sz ?_|refine zc ?_ ?_|(intro h;first|(cases h;done)|rw[h]|skip)|refine uC Z D ?_|refine uC Z h1 ?_)
   all_goals
    show(_:CV)=_;clear hf D O Y h1;refine aaZ CV.bool ?_;generalize (aa args).length=Ll at *;rw[abP]
    (try simp_all [bF])<;>(try omega)
  by_cases c:k=7
  ·subst c;show aR _ _ _ _ (.bool (decide (0<=n/\n<12/\args.length=0)));have h1:=rq n;rw[<- az];refine qn func72 call72 λβ hf=>?_
   repeat' (first|refine sz ?_|refine zc ?_ ?_|(intro h;first|(cases h;done)|rw[h]|skip)|refine uC Z D ?_|refine uC Z h1 ?_)
   all_goals
    show(_:CV)=_;clear hf D O Y h1;refine aaZ CV.bool ?_;generalize (aa args).length=Ll at *;rw[abP]
    (try simp_all [bF])<;>(try omega)
  by_cases c:k=9
  ·subst c;show aR _ _ _ _ (.bool (decide (n=0/\args.length<=1)&&aJ args (aG (.mk 9 ts) 0)));obtain⟨u,rfl⟩:=Lc (show ts.length=1 by(have:arity 9=1:=by decide);omega);show aR _ _ _ _ (.bool (decide (n=0/\args.length<=1)&&aJ args u));have E:fY u=false:=cN P c9;have A:bp u<=8589934593:=by have:=b9 (l:=[u]) (x:=u) c9;omega
   have h1:=Ek u args (λx N=>O x N u E A) bn;have g1:[u][0]?=some u:=rfl;obtain⟨U,us⟩:=u;refine qn func72 call72 λβ hf=>?_
   repeat' (first|refine sz ?_|refine zc ?_ ?_|(intro h;first|(cases h;done)|rw[h]|skip)|refine uC Z D ?_|refine uC Z h1 ?_|refine uI Z (0) Z (eZ g1) Z ?_)
   all_goals
    show(_:CV)=_;clear hf D O Y h1
    (try simp_all [az])<;>(try omega)
  by_cases c:k=10
  ·subst c;show aR _ _ _ _ (.bool (decide (n=0/\args.length<=24)&&aJ args (aG (.mk 10 ts) 0)));obtain⟨u,rfl⟩:=Lc (show ts.length=1 by(have:arity 10=1:=by decide);omega);show aR _ _ _ _ (.bool (decide (n=0/\args.length<=24)&&aJ args u));have E:fY u=false:=cN P c9;have A:bp u<=8589934593:=by have:=b9 (l:=[u]) (x:=u) c9;omega
   have h1:=Ek u args (λx N=>O x N u E A) bn;have g1:[u][0]?=some u:=rfl;obtain⟨U,us⟩:=u;refine qn func72 call72 λβ hf=>?_
   repeat' (first|refine sz ?_|refine zc ?_ ?_|(intro h;first|(cases h;done)|rw[h]|skip)|refine uC Z D ?_|refine uC Z h1 ?_|refine uI Z (0) Z (eZ g1) Z ?_)
   all_goals
    show(_:CV)=_;clear hf D O Y h1
    (try simp_all [az])<;>(try omega)
  by_cases c:k=11
  ·subst c;show aR _ _ _ _ (.bool (decide (n=0/\args.length=2)&&cL args ts));obtain⟨u,M,rfl⟩:=AW (show ts.length=2 by(have:arity 11=2:=by decide);omega);by_cases I:args.length=2
   ·obtain⟨x,y,rfl⟩:=VX I;have E:fY u=false:=cN P c9;have hu':fY M=false:=cN P c9;have A:bp u<=8589934593:=(by have:=b9 (l:=[u,M]) (x:=u) c9;omega);have VZ:bp M<=8589934593:=(by have:=b9 (l:=[u,M]) (x:=M) c9;omega);have h1:=O x c9 u E A;have h2:=O y c9 M hu' VZ;have g1:[u,M][0]?=some u:=rfl;have C:[u,M][1]?=some M:=rfl;have J:[x,y][0]?=some x:=rfl;have g4:[x,y][1]?=some y:=rfl;have S:(decide (n=0/\[x,y].length=2)&&cL [x,y] [u,M])=(decide (n=0)&&(bz x u&&bz y M)):=(by rw[show cL [x,y] [u,M]=(bz x u&&bz y M)from by unfold cL;unfold cL;unfold cL;simp];simp);rw[S];clear S Y;generalize bz x u=B at h1;generalize bz y M=b2 at h2;obtain⟨U,us⟩:=u;obtain⟨U',us'⟩:=M;obtain⟨x1,q,x3,x4,x5,x6,x7⟩:=x;obtain⟨y1,y2,y3,y4,y5,y6,y7⟩:=y;refine qn func72 call72 λβ hf=>?_
    repeat' (first|refine sz ?_|refine zc ?_ ?_|(intro h;first|(cases h;done)|rw[h]|skip)|refine uC Z D ?_|refine uC Z h1 ?_|refine uC Z h2 ?_|refine uI Z (0) Z (eZ g1) Z ?_|refine uI Z (1) Z (eZ C) Z ?_|refine uI Z (0) Z (cY J) Z ?_|refine uI Z (1) Z (cY g4) Z ?_)
    all_goals
     show(_:CV)=_;clear hf D O h1 h2;simp_all [az]
     try (intro Co;cases B<;>simp_all)
   have S:((((aa args).length:Nat):Int)==2)=false:=(by rw[az];simp;omega);refine qn func72 call72 λβ hf=>?_
   repeat' (first|refine sz ?_|refine zc ?_ ?_|(intro h;first|(cases h;done)|rw[h]|skip)|refine uC Z D ?_)
   all_goals
    show(_:CV)=_;clear hf D O Y;simp_all
  by_cases c:k=12
  ·subst c;show aR _ _ _ _ (.bool (decide (0<=n/\n<=1/\args.length=1)&&aJ args (aG (.mk 12 ts) n.toNat)));obtain⟨u,M,rfl⟩:=AW (show ts.length=2 by(have:arity 12=2:=by decide);omega);by_cases I:args.length=1
   ·obtain⟨x,rfl⟩:=NV I;have E:fY u=false:=cN P c9;have hu':fY M=false:=cN P c9;have A:bp u<=8589934593:=(by have:=b9 (l:=[u,M]) (x:=u) c9;omega);have VZ:bp M<=8589934593:=(by have:=b9 (l:=[u,M]) (x:=M) c9;omega);have h1:=O x c9 u E A;have h2:=O x c9 M hu' VZ;have g1:[u,M][0]?=some u:=rfl;have C:[u,M][1]?=some M:=rfl;have J:[x][0]?=some x:=rfl;have ev:∀w,aJ [x] w=bz x w:=λw=>by unfold aJ;unfold aJ;simp
    rw[ev];clear ev Y;by_cases n0:n=0
    ·subst n0;show aR _ _ _ _ (.bool (decide ((0:Int)<=0/\(0:Int)<=1/\[x].length=1)&&bz x u));clear h2;generalize bz x u=B at h1;obtain⟨U,us⟩:=u;obtain⟨x1,q,x3,x4,x5,x6,x7⟩:=x;refine qn func72 call72 λβ hf=>?_
     repeat' (first|refine sz ?_|refine zc ?_ ?_|(intro h;first|(cases h;done)|rw[h]|skip)|refine uC Z D ?_|refine uC Z h1 ?_|refine uI Z (0) Z (eZ g1) Z ?_|refine uI Z (0) Z (cY J) Z ?_)
     all_goals
      show(_:CV)=_;clear hf D O h1;simp_all [az]
    by_cases n1:n=1
    ·subst n1;show aR _ _ _ _ (.bool (decide ((0:Int)<=1/\(1:Int)<=1/\[x].length=1)&&bz x M));clear h1;generalize bz x M=B at h2;obtain⟨U,us⟩:=M;obtain⟨x1,q,x3,x4,x5,x6,x7⟩:=x;refine qn func72 call72 λβ hf=>?_
     repeat' (first|refine sz ?_|refine zc ?_ ?_|(intro h;first|(cases h;done)|rw[h]|skip)|refine uC Z D ?_|refine uC Z h2 ?_|refine uI Z (1) Z (eZ C) Z ?_|refine uI Z (0) Z (cY J) Z ?_)
     all_goals
      show(_:CV)=_;clear hf D O h2;simp_all [az]
    rw[show decide (0<=n/\n<=1/\[x].length=1)=false from by simp;omega,abn];by_cases n2:n<0;have S:decide (n>=0)=false:=(by simp;omega);exact qdq func72 call72;have S:decide (n>=0)=true:=(by simp;omega);have e6:decide (n<=1)=false:=(by simp;omega);exact qdq func72 call72
   have S:((((aa args).length:Nat):Int)==1)=false:=(by rw[az];simp;omega);refine qn func72 call72 λβ hf=>?_
   repeat' (first|refine sz ?_|refine zc ?_ ?_|(intro h;first|(cases h;done)|rw[h]|skip)|refine uC Z D ?_)
   all_goals
    show(_:CV)=_;clear hf D O Y;simp_all
  by_cases c:k=13
  ·subst c;show aR _ _ _ _ (.bool (decide (n=0/\args.length<=24)&&oR (.mk 11 ts) none args));by_cases n0:n=0;rotate_left;have S:(n != 0)=true:=(by simpa using n0);rw[show decide (n=0/\args.length<=24)=false from by simp[n0],abn];exact qdq func72 call72;subst n0;by_cases I:args.length<=24;rotate_left;have S:decide ((((aa args).length:Nat):Int)>24)=true:=(by rw[az];simp;omega);rw[show decide ((0:Int)=0/\args.length<=24)=false from by simp;omega,abn];exact qdq func72 call72;have S:decide ((((aa args).length:Nat):Int)>24)=false:=(by rw[az];simp;omega);rw[show decide ((0:Int)=0/\args.length<=24)=true from by simp[I],abq];obtain⟨u,M,rfl⟩:=AW (show ts.length=2 by(have:arity 13=2:=by decide);omega);have E:fY u=false:=cN P c9;have WE:fY (.mk 11 [u,M])=false:=by simp only[fY,abW];exact⟨by show decide (arity 11≠2)=false;decide,P⟩
   have hps:bp (.mk 11 [u,M])<=8589934593:=(by simp only[bp];omega);clear Y;refine qn func72 call72 λβ hf=>?_
   repeat' (first|refine sz ?_|refine zc ?_ ?_|(intro h;first|(cases h;done)|rw[h]|skip)|refine uC Z D ?_)
   refine AK.dI (α:=Nat) (λi=>i<=args.length/\oR (.mk 11 [u,M]) none args=oR (.mk 11 [u,M]) (pre args i) (args.drop i)/\∀p,pre args i=some p->p∈args/\bz p (.mk 11 [u,M])=true) (λi=>args.length-i)
    (λi=>[(192,.c (.int .i64 i)),(191,.c (.int .i64 (aa args).length)),(190,.c (.sl 7 (aa args))),(2,.ptr 2 0),(3,.ptr 3 0)])
    (λ_=>[(2,[.c (.int .i64 13),.c (.sl 2 (aj [u,M]))]),(3,[.c (.int .i64 13),.c (.int .i64 0),.c (.int .i64 a),.c (.str s),.c (.sl 7 (aa args)),.c (.sl 2 (aj types)),.c (.sl 5 (aD H))])]) (λ_=>[]) [2,3] 0
    ⟨bn,Z,λp h=>by simp[pre]at h⟩ ce ⟨Z,Z,trivial⟩ trivial Z Z Z ?_
   rintro i ⟨hi,W,hpre⟩ ih;rcases eI args i hi with ⟨x,N,hm⟩|he
   ·have hc:=mh N;have hq:=O x hm _ WE hps;have hlt:=bh N;rw[cQ N]at W;have G:pre args (i+1)=some x:=(by simp only[pre,Nat.add_one_ne_zero,acd,adI];exact N);by_cases Yh:bz x (.mk 11 [u,M])=true;rotate_left;have hxf:bz x (.mk 11 [u,M])=false:=(by simpa using Yh);rw[hxf]at hq;have h0:oR (.mk 11 [u,M]) none args=false:=(by rw[W];cases pre args i<;>simp only[vm,vl,hxf,abn]);rw[h0];clear W h0;obtain⟨x1,q,x3,x4,x5,x6,x7⟩:=x;have wq:=cY N;exact dq;rw[Yh]at hq;obtain⟨q,x3,x4,x6,x7,V,xv,rfl,hxk,hxv⟩:=WH Yh;by_cases i0:i=0
    ·subst i0;have hinv':oR (.mk 11 [u,M]) none args=oR (.mk 11 [u,M]) (some (.mk 11 q x3 x4 [V,xv] x6 x7)) (args.drop 1):=by rw[W];simp only[pre,if_true,vl,Yh,abq]
     repeat' (first|refine sz ?_|refine zc ?_ ?_|(intro h;first|(cases h;done)|rw[h]|skip)|refine uI Z (0) Z (cY N) Z ?_|refine uC Z hq ?_)
     refine AK.again (ih 1 ⟨hlt,?_,?_⟩ bn) ce ⟨Z,Z,trivial⟩ trivial Z Z Z;rw[hinv',G];intro p D;rw[G]at D;cases D;exact⟨hm,Yh⟩
    have ei:decide (((i:Nat):Int)>0)=true:=(by simp;omega);obtain⟨p,Yu⟩:∃p,args[i-1]?=some p:=⟨args[i-1]' bn,c9⟩;have hpi:pre args i=some p:=(by simp only[pre,if_neg i0];exact Yu);obtain⟨hpm,hph⟩:=hpre p hpi;have I5:i64.wrap (((i:Nat):Int)-1)=((i-1:Nat):Int):=(by rw[gM bn bn];omega);have acL:=cI hpm;obtain⟨p2,p3,p4,p6,p7,K,pv,rfl,hpk,hpv⟩:=WH hph;have hcq:=nK K V u E hpk hxk (by simp only[aE,aB]at acL;omega);have Q:oR (.mk 11 [u,M]) none args=(decide (de K V<0)&&oR (.mk 11 [u,M]) (some (.mk 11 q x3 x4 [V,xv] x6 x7)) (args.drop (i+1))):=(by rw[W,hpi];rw[vm];rw[Yh,abq];rfl);have g1:[K,pv][0]?=some K:=rfl;have C:[V,xv][0]?=some V:=rfl;by_cases hcm:de K V<0
    ·have ec:decide (de K V>=0)=false:=(by simp;omega);rw[show decide (de K V<0)=true from by simpa using hcm,abq]at Q;obtain⟨a1,a2,a3,a4,a5,a6,a7⟩:=V;obtain⟨B,b2,b3,b4,b5,b6,b7⟩:=K
     repeat' (first|refine sz ?_|refine zc ?_ ?_|(intro h;first|(cases h;done)|rw[h]|skip)|refine uI Z (i) Z (cY N) Z ?_|refine uC Z hq ?_|refine ai.index hX Z Z Z Z Z Z Z Z Z Z (i-1) I5 (cY Yu) Z ?_|refine uI Z (0) Z (cY g1) Z ?_|refine uI Z (0) Z (cY C) Z ?_|refine uC Z hcq ?_)
     refine AK.again (ih (i+1) ⟨hlt,?_,?_⟩ bn) ⟨.inl (ff bn),.inl Z,.inl Z,.inl Z,.inl Z,trivial⟩ ⟨Z,Z,trivial⟩ trivial Z Z Z;rw[Q,G];intro p D;rw[G]at D;cases D;exact⟨hm,Yh⟩
    have ec:decide (de K V>=0)=true:=(by simp;omega);rw[show decide (de K V<0)=false from by simpa using hcm,abn]at Q;rw[Q];clear Q W;obtain⟨a1,a2,a3,a4,a5,a6,a7⟩:=V;obtain⟨B,b2,b3,b4,b5,b6,b7⟩:=K
    repeat' (first|refine sz ?_|refine zc ?_ ?_|(intro h;first|(cases h;done)|rw[h]|skip)|refine uI Z (i) Z (cY N) Z ?_|refine uC Z hq ?_|refine ai.index hX Z Z Z Z Z Z Z Z Z Z (i-1) I5 (cY Yu) Z ?_|refine uI Z (0) Z (cY g1) Z ?_|refine uI Z (0) Z (cY C) Z ?_|refine uC Z hcq ?_)
    all_goals rfl
   have hc:=jK he;have h0:oR (.mk 11 [u,M]) none args=true:=(by rw[W,he,aaW];exact Ue _ _);rw[h0];clear ih;exact dq
  by_cases c:k=14
  ·subst c;show aR _ _ _ _ (.bool (cw (aG (.mk 14 ts) 0) (types.getD 0 iY)&&cw (aG (.mk 14 ts) 1) (types.getD 1 iY)));obtain⟨u,M,rfl⟩:=AW (show ts.length=2 by(have:arity 14=2:=by decide);omega)
   obtain⟨w,w',rfl⟩:=AW (show types.length=2 by
    have h:decide (types.length=2/\a=0/\n=0/\s=[]/\args.length=0)=true:=Y
    simp only[abU]at h;exact h.1)
   show aR _ _ _ _ (.bool (cw u w&&cw M w'));have A:bp u<=8589934593:=(by have:=b9 (l:=[u,M]) (x:=u) c9;omega);have VZ:bp M<=8589934593:=(by have:=b9 (l:=[u,M]) (x:=M) c9;omega);have h1:=gJ u w bn;have h2:=gJ M w' bn;have g1:[u,M][0]?=some u:=rfl;have C:[u,M][1]?=some M:=rfl;have J:[w,w'][0]?=some w:=rfl;have g4:[w,w'][1]?=some w':=rfl;generalize cw u w=B at h1;generalize cw M w'=b2 at h2;clear Y;obtain⟨u1,u2⟩:=u;obtain⟨u3,u4⟩:=M;obtain⟨w1,w2⟩:=w;obtain⟨w3,w4⟩:=w';refine qn func72 call72 λβ hf=>?_
   repeat' (first|refine sz ?_|refine zc ?_ ?_|(intro h;first|(cases h;done)|rw[h]|skip)|refine uC Z D ?_|refine uC Z h1 ?_|refine uC Z h2 ?_|refine uI Z (0) Z (eZ g1) Z ?_|refine uI Z (1) Z (eZ C) Z ?_|refine uI Z (0) Z (eZ J) Z ?_|refine uI Z (1) Z (eZ g4) Z ?_)
   all_goals
    show(_:CV)=_;clear hf D O h1 h2;simp_all
  by_cases c:k=15
  ·subst c;show aR _ _ _ _ (.bool (decide (1<=n/\n<=bF/\0<=a/\a<12/\args.length=1)&&aJ args (aG (.mk 15 ts) 0)));obtain⟨u,rfl⟩:=Lc (show ts.length=1 by(have:arity 15=1:=by decide);omega);have h1:=iS n;rw[zy]at h1;have h2:=rq a;by_cases I:args.length=1
   ·obtain⟨x,rfl⟩:=NV I;have E:fY u=false:=cN P c9;have A:bp u<=8589934593:=(by have:=b9 (l:=[u]) (x:=u) c9;omega);have h3:=O x c9 u E A;have g1:[u][0]?=some u:=rfl;have J:[x][0]?=some x:=rfl;rw[show aJ [x] (aG (.mk 15 [u]) 0)=bz x u from by unfold aJ;unfold aJ;simp[aG,aK]];generalize bz x u=B at h3;obtain⟨U,us⟩:=u;obtain⟨x1,q,x3,x4,x5,x6,x7⟩:=x;refine qn func72 call72 λβ hf=>?_
    repeat' (first|refine sz ?_|refine zc ?_ ?_|(intro h;first|(cases h;done)|rw[h]|skip)|refine uC Z D ?_|refine uC Z h1 ?_|refine uC Z h2 ?_|refine uC Z h3 ?_|refine uI Z (0) Z (eZ g1) Z ?_|refine uI Z (0) Z (cY J) Z ?_)
    all_goals
     show(_:CV)=_;clear hf D O h1 h2 h3 Y
     (try simp_all [bF,az])<;>(try omega)
   have S:((((aa args).length:Nat):Int)==1)=false:=(by rw[az];simp;omega);refine qn func72 call72 λβ hf=>?_
   repeat' (first|refine sz ?_|refine zc ?_ ?_|(intro h;first|(cases h;done)|rw[h]|skip)|refine uC Z D ?_|refine uC Z h1 ?_|refine uC Z h2 ?_)
   all_goals
    show(_:CV)=_;clear hf D O h1 h2 Y;simp_all
  by_cases c:k=8
  ·subst c;show aR _ _ _ _ (.bool (decide (0<=n/\n<=bF/\0<=a/\a<12/\args.length=1)&&bg (types.getD 0 iY)&&aJ args (types.getD 0 iY)))
   obtain⟨u,rfl⟩:=Lc (show types.length=1 by
    have h:decide (types.length=1/\H.length=0/\s=[])=true:=Y
    simp only[abU]at h;exact h.1)
   have h1:=iS n;rw[zy]at h1;have h2:=rq a;by_cases I:args.length=1
   ·obtain⟨x,rfl⟩:=NV I;have A:bp u<=8589934593:=(by have:=b9 (l:=[u]) (x:=u) c9;omega);have hg:=mY u A;have g1:[u][0]?=some u:=rfl;have J:[x][0]?=some x:=rfl;rw[show aJ [x] ([u].getD 0 iY)=bz x u from by unfold aJ;unfold aJ;simp];rw[aag];by_cases hgd:bg u=true
    ·have h3:=O x c9 u (kH hgd) A;rw[hgd]at hg ⊢;generalize bz x u=B at h3;obtain⟨U,us⟩:=u;obtain⟨x1,q,x3,x4,x5,x6,x7⟩:=x;refine qn func72 call72 λβ hf=>?_
     repeat' (first|refine sz ?_|refine zc ?_ ?_|(intro h;first|(cases h;done)|rw[h]|skip)|refine uC Z D ?_|refine uC Z h1 ?_|refine uC Z h2 ?_|refine uC Z hg ?_|refine uC Z h3 ?_|refine uI Z (0) Z (eZ g1) Z ?_|refine uI Z (0) Z (cY J) Z ?_)
     all_goals
      show(_:CV)=_;clear hf D O h1 h2 h3 hg Y
      (try simp_all [bF,az])<;>(try omega)
    have hgf:bg u=false:=(by simpa using hgd);rw[hgf]at hg ⊢;obtain⟨U,us⟩:=u;refine qn func72 call72 λβ hf=>?_
    repeat' (first|refine sz ?_|refine zc ?_ ?_|(intro h;first|(cases h;done)|rw[h]|skip)|refine uC Z D ?_|refine uC Z h1 ?_|refine uC Z h2 ?_|refine uC Z hg ?_|refine uI Z (0) Z (eZ g1) Z ?_)
    all_goals
     show(_:CV)=_;clear hf D O h1 h2 hg Y;simp_all [bF]
   have S:((((aa args).length:Nat):Int)==1)=false:=(by rw[az];simp;omega);refine qn func72 call72 λβ hf=>?_
   repeat' (first|refine sz ?_|refine zc ?_ ?_|(intro h;first|(cases h;done)|rw[h]|skip)|refine uC Z D ?_|refine uC Z h1 ?_|refine uC Z h2 ?_)
   all_goals
    show(_:CV)=_;clear hf D O h1 h2 Y;simp_all
  exfalso;have:=Ld Lu;omega
termination_by v=>SizeOf.sizeOf v
decreasing_by
 have:=abg N;simp at this ⊢;omega
end Go.Proofs
namespace Go.Proofs
open Go.cB
attribute [local irreducible] AK ai aR bW
def lN(p:Int):af 101 [.int .i64 p] (.bool (qM p)):=by
 refine qn func101 call101 λβ hf=>?_
 repeat' (first|refine sz ?_|refine zc ?_ ?_|(intro h;first|(cases h;done)|rw[h]|skip))
 all_goals
  show(_:CV)=_;clear hf;simp only[adm,ade,abU,ada]at *;congr 1;unfold qM
  first
  |(symm;apply aam;omega)
  |(symm;apply aan;omega)
  |(apply decide_eq_decide.2;omega)
def lO{u n p:Int}{s:L UInt8}{args:L Nd}{d e:Int}(h:gr u n p s args.length d=e)(Y:e≠0):eC (.mk u n p s args) d=e:=by simp only[eC,h,if_neg Y]
def tj{u n p:Int}{s:L UInt8}{args:L Nd}{d:Int}(h:gr u n p s args.length d=0):eC (.mk u n p s args) d=cS args (d+1):=by simp only[eC,h,if_true]
def tr(d:Int):cS [] d=0:=rfl
def qP(x:Nd)(l:L Nd)(d:Int):cS (x::l) d=if eC x d=0 then cS l d else eC x d:=rfl
attribute [local irreducible] eC cS
def Bw:∀(t:Nd)(d:Int),bR t<=8589934593->0<=d->d<=1099511627776-bR t->af 77 [aS t,.int .i64 d] (.int .i64 (eC t d))
 |.mk kind n p s args=>by
  intro d ht Lz hd
  simp only[bR]at ht hd
  have Cf:=gA args
  have hin:∀x∈args,af 77 [aS x,.int .i64 (i64.wrap (d+1))] (.int .i64 (eC x (d+1))):=by
   intro x hx
   have:=eR hx
   rw[gM bn bn]
   exact Bw x (d+1) bn bn bn
  by_cases c1:d>24
  ·have e1:decide (d>24)=true:=aam c1
   rw[lO (e:=4) (by simp only[gr,if_pos c1]) bn]
   refine qn func77 call77 λβ hf=>?_
   repeat' (first|refine sz ?_|refine zc ?_ ?_|(intro h;first|(cases h;done)|rw[h]|skip))
   all_goals rfl
  have e1:decide (d>24)=false:=aan c1
  by_cases c2:kind<0
  ·have e2:decide (kind<0)=true:=aam c2
   rw[lO (e:=3) (by simp only[gr,if_neg c1,c2,true_or,if_true]) bn]
   refine qn func77 call77 λβ hf=>?_
   exact dq
  have e2:decide (kind<0)=false:=aan c2
  by_cases c3:kind>3
  ·have e3:decide (kind>3)=true:=aam c3
   rw[lO (e:=3) (by simp only[gr,if_neg c1,c3,true_or,or_true,if_true]) bn]
   refine qn func77 call77 λβ hf=>?_
   exact dq
  have e3:decide (kind>3)=false:=aan c3
  have h4:kind=0\/kind=1\/kind=2\/kind=3:=by omega
  rcases h4 with rfl|rfl|rfl|rfl
  ·skip
   refine qn func77 call77 λβ hf=>?_
   repeat' (first|refine sz ?_|refine zc ?_ ?_|(intro h;first|(cases h;done)|rw[h]|skip)|refine uC Z (lN p) ?_)
   all_goals first
     |((show(_:CV)=_);clear hf hin;(try simp only[bf]at *);congr 1;symm;refine lO ?_ bn;unfold gr bF;simp_all<;>(repeat' split)<;>omega)
     |skip
   all_goals
    have hw:gr (0) n p s args.length d=0:=by
     clear hf hin
     try simp only[bf]at *
     unfold gr bF
     simp_all<;>(repeat' split)<;>omega
    have hT:=tj hw
    clear hw
    refine AK.dI (α:=Nat) (λi=>i<=args.length/\cS args (d+1)=cS (args.drop i) (d+1)) (λi=>args.length-i)
     (λi=>[(88,.c (.int .i64 i)),(87,.c (.int .i64 (aD args).length)),(86,.c (.sl 5 (aD args))),(1,.c (.int .i64 d))]) (λ_=>[]) (λ_=>[]) [] 0
     ⟨bn,Z⟩ ce trivial trivial Z Z Z ?_
    rintro i ⟨hi,hinv⟩ ih
    rcases eI args i hi with ⟨x,hx,hm⟩|he
    ·have hc:=l8 hx
     have hq:=hin x hm
     rw[cQ hx,qP]at hinv
     obtain⟨x1,x2,x3,x4,x5⟩:=x
     by_cases h0:eC (.mk x1 x2 x3 x4 x5) (d+1)=0
     ·rw[if_pos h0]at hinv
      rw[h0]at hq
      repeat' (first|refine sz ?_|refine zc ?_ ?_|(intro h;first|(cases h;done)|rw[h]|skip)|refine uI Z (i) Z (ew hx) Z ?_|refine uC Z hq ?_)
      exact aaK
     ·rw[if_neg h0]at hinv
      have hne:(eC (.mk x1 x2 x3 x4 x5) (d+1) != 0)=true:=by simpa using h0
      repeat' (first|refine sz ?_|refine zc ?_ ?_|(intro h;first|(cases h;done)|rw[h]|skip)|refine uI Z (i) Z (ew hx) Z ?_|refine uC Z hq ?_)
      show(_:CV)=_
      rw[hT,hinv]
    ·have hc:=jH he
     have h0:cS args (d+1)=0:=by rw[hinv,he,aaW,tr]
     clear ih
     repeat' (first|refine sz ?_|refine zc ?_ ?_|(intro h;first|(cases h;done)|rw[h]|skip))
     show(_:CV)=_
     rw[hT,h0]
  ·skip
   refine qn func77 call77 λβ hf=>?_
   repeat' (first|refine sz ?_|refine zc ?_ ?_|(intro h;first|(cases h;done)|rw[h]|skip)|refine uC Z (lN p) ?_)
   all_goals first
     |((show(_:CV)=_);clear hf hin;(try simp only[bf]at *);congr 1;symm;refine lO ?_ bn;unfold gr bF;simp_all<;>(repeat' split)<;>omega)
     |skip
   all_goals
    have hw:gr (1) n p s args.length d=0:=by
     clear hf hin
     try simp only[bf]at *
     unfold gr bF
     simp_all<;>(repeat' split)<;>omega
    have hT:=tj hw
    clear hw
    refine AK.dI (α:=Nat) (λi=>i<=args.length/\cS args (d+1)=cS (args.drop i) (d+1)) (λi=>args.length-i)
     (λi=>[(88,.c (.int .i64 i)),(87,.c (.int .i64 (aD args).length)),(86,.c (.sl 5 (aD args))),(1,.c (.int .i64 d))]) (λ_=>[]) (λ_=>[]) [] 0
     ⟨bn,Z⟩ ce trivial trivial Z Z Z ?_
    rintro i ⟨hi,hinv⟩ ih
    rcases eI args i hi with ⟨x,hx,hm⟩|he
    ·have hc:=l8 hx
     have hq:=hin x hm
     rw[cQ hx,qP]at hinv
     obtain⟨x1,x2,x3,x4,x5⟩:=x
     by_cases h0:eC (.mk x1 x2 x3 x4 x5) (d+1)=0
     ·rw[if_pos h0]at hinv
      rw[h0]at hq
      repeat' (first|refine sz ?_|refine zc ?_ ?_|(intro h;first|(cases h;done)|rw[h]|skip)|refine uI Z (i) Z (ew hx) Z ?_|refine uC Z hq ?_)
      exact aaK
     ·rw[if_neg h0]at hinv
      have hne:(eC (.mk x1 x2 x3 x4 x5) (d+1) != 0)=true:=by simpa using h0
      repeat' (first|refine sz ?_|refine zc ?_ ?_|(intro h;first|(cases h;done)|rw[h]|skip)|refine uI Z (i) Z (ew hx) Z ?_|refine uC Z hq ?_)
      show(_:CV)=_
      rw[hT,hinv]
    ·have hc:=jH he
     have h0:cS args (d+1)=0:=by rw[hinv,he,aaW,tr]
     clear ih
     repeat' (first|refine sz ?_|refine zc ?_ ?_|(intro h;first|(cases h;done)|rw[h]|skip))
     show(_:CV)=_
     rw[hT,h0]
  ·skip
   refine qn func77 call77 λβ hf=>?_
   repeat' (first|refine sz ?_|refine zc ?_ ?_|(intro h;first|(cases h;done)|rw[h]|skip)|refine uC Z (lN p) ?_)
   all_goals first
     |((show(_:CV)=_);clear hf hin;(try simp only[bf]at *);congr 1;symm;refine lO ?_ bn;unfold gr bF;simp_all<;>(repeat' split)<;>omega)
     |skip
   all_goals
    have hw:gr (2) n p s args.length d=0:=by
     clear hf hin
     try simp only[bf]at *
     unfold gr bF
     simp_all<;>(repeat' split)<;>omega
    have hT:=tj hw
    clear hw
    refine AK.dI (α:=Nat) (λi=>i<=args.length/\cS args (d+1)=cS (args.drop i) (d+1)) (λi=>args.length-i)
     (λi=>[(88,.c (.int .i64 i)),(87,.c (.int .i64 (aD args).length)),(86,.c (.sl 5 (aD args))),(1,.c (.int .i64 d))]) (λ_=>[]) (λ_=>[]) [] 0
     ⟨bn,Z⟩ ce trivial trivial Z Z Z ?_
    rintro i ⟨hi,hinv⟩ ih
    rcases eI args i hi with ⟨x,hx,hm⟩|he
    ·have hc:=l8 hx
     have hq:=hin x hm
     rw[cQ hx,qP]at hinv
     obtain⟨x1,x2,x3,x4,x5⟩:=x
     by_cases h0:eC (.mk x1 x2 x3 x4 x5) (d+1)=0
     ·rw[if_pos h0]at hinv
      rw[h0]at hq
      repeat' (first|refine sz ?_|refine zc ?_ ?_|(intro h;first|(cases h;done)|rw[h]|skip)|refine uI Z (i) Z (ew hx) Z ?_|refine uC Z hq ?_)
      exact aaK
     ·rw[if_neg h0]at hinv
      have hne:(eC (.mk x1 x2 x3 x4 x5) (d+1) != 0)=true:=by simpa using h0
      repeat' (first|refine sz ?_|refine zc ?_ ?_|(intro h;first|(cases h;done)|rw[h]|skip)|refine uI Z (i) Z (ew hx) Z ?_|refine uC Z hq ?_)
      show(_:CV)=_
      rw[hT,hinv]
    ·have hc:=jH he
     have h0:cS args (d+1)=0:=by rw[hinv,he,aaW,tr]
     clear ih
     repeat' (first|refine sz ?_|refine zc ?_ ?_|(intro h;first|(cases h;done)|rw[h]|skip))
     show(_:CV)=_
     rw[hT,h0]
  ·skip
   refine qn func77 call77 λβ hf=>?_
   repeat' (first|refine sz ?_|refine zc ?_ ?_|(intro h;first|(cases h;done)|rw[h]|skip)|refine uC Z (lN p) ?_)
   all_goals first
     |((show(_:CV)=_);clear hf hin;(try simp only[bf]at *);congr 1;symm;refine lO ?_ bn;unfold gr bF;simp_all<;>(repeat' split)<;>omega)
     |skip
   all_goals
    have hw:gr (3) n p s args.length d=0:=by
     clear hf hin
     try simp only[bf]at *
     unfold gr bF
     simp_all<;>(repeat' split)<;>omega
    have hT:=tj hw
    clear hw
    refine AK.dI (α:=Nat) (λi=>i<=args.length/\cS args (d+1)=cS (args.drop i) (d+1)) (λi=>args.length-i)
     (λi=>[(88,.c (.int .i64 i)),(87,.c (.int .i64 (aD args).length)),(86,.c (.sl 5 (aD args))),(1,.c (.int .i64 d))]) (λ_=>[]) (λ_=>[]) [] 0
     ⟨bn,Z⟩ ce trivial trivial Z Z Z ?_
    rintro i ⟨hi,hinv⟩ ih
    rcases eI args i hi with ⟨x,hx,hm⟩|he
    ·have hc:=l8 hx
     have hq:=hin x hm
     rw[cQ hx,qP]at hinv
     obtain⟨x1,x2,x3,x4,x5⟩:=x
     by_cases h0:eC (.mk x1 x2 x3 x4 x5) (d+1)=0
     ·rw[if_pos h0]at hinv
      rw[h0]at hq
      repeat' (first|refine sz ?_|refine zc ?_ ?_|(intro h;first|(cases h;done)|rw[h]|skip)|refine uI Z (i) Z (ew hx) Z ?_|refine uC Z hq ?_)
      exact aaK
     ·rw[if_neg h0]at hinv
      have hne:(eC (.mk x1 x2 x3 x4 x5) (d+1) != 0)=true:=by simpa using h0
      repeat' (first|refine sz ?_|refine zc ?_ ?_|(intro h;first|(cases h;done)|rw[h]|skip)|refine uI Z (i) Z (ew hx) Z ?_|refine uC Z hq ?_)
      show(_:CV)=_
      rw[hT,hinv]
    ·have hc:=jH he
     have h0:cS args (d+1)=0:=by rw[hinv,he,aaW,tr]
     clear ih
     repeat' (first|refine sz ?_|refine zc ?_ ?_|(intro h;first|(cases h;done)|rw[h]|skip))
     show(_:CV)=_
     rw[hT,h0]
termination_by t=>SizeOf.sizeOf t
decreasing_by
 have:=abg hx
 simp at this ⊢;omega
end Go.Proofs
namespace Go.Proofs
open Go.cB
def V0(u n p:Int)(s:L UInt8)(args:L Nd):many (.mk u n p s args)=cz args+1:=rfl
def Qw:cz []=0:=rfl
def NX(x:Nd)(l:L Nd):cz (x::l)=many x+cz l:=rfl
mutual
def Qx:∀t:Nd,many t<=bR t
 |.mk u n p s args=>by have:=xV args;simp only[many,bR];omega
def xV:∀l:L Nd,cz l<=aM l
 |[]=>aal _
 |t::l=>by have:=Qx t;have:=xV l;simp only[cz,aM];omega
end
def aah{a b:Nat}(h:a+b<1099511627776):some (AV.c (CV.int .i64 (i64.wrap ((a:Int)+(b:Int)))))=some (AV.c (CV.int .i64 ((a+b:Nat):Int))):=by rw[gM bn bn];rfl
attribute [local irreducible] AK ai aR bW many cz eC cS
def El:∀(t:Nd),bR t<=8589934593->af 78 [aS t] (.int .i64 (many t))
 |.mk u n p s args,V=>by
  have T:=xV args;simp only[bR]at V;have Q:=gA args;have Y:∀x∈args,af 78 [aS x] (.int .i64 (many x)):=λx O=>El x (by have:=eR O;omega);rw[V0];refine qn func78 call78 λβ hf=>?_;refine dn ?_;refine AK.dI (α:=Nat×Nat) (λz=>z.1<=args.length/\cz args+1=z.2+cz (args.drop z.1)) (λz=>args.length-z.1)
   (λz=>[(9,.c (.int .i64 z.1)),(8,.c (.int .i64 (aD args).length)),(7,.c (.sl 5 (aD args))),(3,.c (.int .i64 z.2))]) (λ_=>[]) (λ_=>[]) [] (0,1)
   ⟨bn,by rw[ack];omega⟩ ce trivial trivial Z Z Z ?_
  rintro⟨i,m⟩ ⟨W,U⟩ ih;simp only at W U;rcases eI args i W with ⟨x,O,S⟩|A
  ·have D:=l8 O;have hq:=Y x S;rw[cQ O,NX]at U;have h2:=bh O;generalize many x=q at hq U;obtain⟨P,B,N,K,J⟩:=x
   repeat' (first|refine qg ?_|refine zc ?_ ?_|(intro h;first|(cases h;done)|rw[h]|skip)|refine uI Z (i) Z (ew O) Z ?_|refine uC Z hq ?_)
   refine AK.again (ih (i+1,m+q) ⟨h2,by show cz args+1=m+q+cz (args.drop (i+1));omega⟩ fe) ⟨.inl (ff bn),.inl Z,.inl Z,.inl (aah (a:=m) (b:=q) bn),trivial⟩ trivial trivial Z Z Z
  have D:=jH A;have M:cz args+1=m:=by rw[U,A,aaW,Qw,abI]
  clear ih
  repeat' (first|refine qg ?_|refine zc ?_ ?_|(intro h;first|(cases h;done)|rw[h]|skip))
  show(_:CV)=_;rw[M]
termination_by t=>SizeOf.sizeOf t
decreasing_by
 have:=abg O;simp at this ⊢;omega
def pG(n:Nd)(O:bR n<=8589934593):af 57 [aS n] (.int .i64 (dD n)):=by
 have h1:=Bw n 1 O bn bn;have h2:=El n O;unfold dD;generalize eC n 1=e at h1;generalize many n=m at h2;obtain⟨W,P,Y,Q,N⟩:=n;by_cases p:e=0;subst p;by_cases M:300<m;have B:decide ((m:Int)>300)=true:=aam bn;simp only[M,if_true];exact qdq func57 call57;have B:decide ((m:Int)>300)=false:=aan bn;simp only[M,acd,if_true];exact qdq func57 call57;have V:(e != 0)=true:=by simpa using p
 simp only[p,acd];exact qdq func57 call57
end Go.Proofs
namespace Go.Proofs
open Go.cB
attribute [local irreducible] AK ai aR bW de bz O4 bg eJ dD lp cw pF
def Pg(t:Ty)(v:Vl)(p:bp t<=8589934593)(q:aE v<=8589934593):af 52 [dA t,bA v] (.bool (pF t v)):=by
 obtain⟨T,ts⟩:=t;obtain⟨P,B,D,U,J,A,K⟩:=v;have h1:=mY (.mk T ts) p;cases Q:bg (.mk T ts)with
 |false =>
  rw[Q]at h1;rw[show pF (.mk T ts) (.mk P B D U J A K)=false from by unfold pF;rw[Q,abn]];exact qdq func52 call52
 |true =>
  have h2:=zK (.mk P B D U J A K) (.mk T ts) (kH Q) q p;rw[Q]at h1;rw[show pF (.mk T ts) (.mk P B D U J A K)=bz (.mk P B D U J A K) (.mk T ts)from by unfold pF;rw[Q,abq]];generalize bz (.mk P B D U J A K) (.mk T ts)=b at h2;exact qdq func52 call52
end Go.Proofs
