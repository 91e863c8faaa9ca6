/- A part of the proof. -/
import Derived.Test.YtpnpbmbdkinajaaGreatDoorVal1G
set_option linter.all false
set_option maxHeartbeats 0
set_option maxRecDepth 100000
open Go.IntKind Go.Proofs.Tryz
namespace Go.Proofs
open Go.cE
def Ga(t:Ty):∀(l:Ξ),(!(l.any λx => !bJ x t))=aS l t
 |[]=>rfl
 |x::l=>by simp only[aS,<- Ga t l,akx];cases bJ x t<;>simp
def upB:Ξ->Bool
 |[]=>true
 |[_]=>true
 |x::y::l=>decide (ee (ou x) (ou y)<0)&&upB (y::l)
def ab1:∀l:Ξ,Cu l=upB l
 |[]=>rfl
 |[_]=>rfl
 |x::y::l=>by have:=ab1 (y::l);simp only[upB,<- this];rfl
def sJ(t:Ty):Option Vl->Ξ->Bool
 |_,[]=>true
 |none,x::l=>bJ x t&&sJ t (some x) l
 |some p,x::l=>bJ x t&&(decide (ee (ou p) (ou x)<0)&&sJ t (some x) l)
def Ml(t:Ty):∀(l:Ξ)(p:Vl),sJ t (some p) l=(aS l t&&upB (p::l))
 |[],p=>by simp[sJ,aS,upB]
 |x::l,p=>by simp only[sJ,aS,upB,Ml t l x];grind
def Yg(t:Ty)(l:Ξ):sJ t none l=(aS l t&&Cu l):=by
 rw[ab1];cases l with
 |nil=>rfl
 |cons x l =>
  simp only[sJ,aS,Ml];grind
def ab2(t:Ty)(p:Option Vl):sJ t p []:=by cases p<;>rfl
def Ar(t:Ty)(x:Vl)(l:Ξ):sJ t none (x::l)=(bJ x t&&sJ t (some x) l):=rfl
def As(t:Ty)(p x:Vl)(l:Ξ):sJ t (some p) (x::l)=(bJ x t&&(decide (ee (ou p) (ou x)<0)&&sJ t (some x) l)):=rfl
def Vm(k n a:Int)(s:Δ)(V:Ξ)(Y:Γ)(code:Θ)(t:Ty)(h:k≠cL t\/cG (.mk k n a s V Y code)=false\/200<s.length):bJ (.mk k n a s V Y code) t=false:=by simp only[bJ,if_pos h]
def ab3(k n a:Int)(s:Δ)(Y:Ξ)(V:Γ)(code:Θ)(t:Ty)(h:¬(k≠cL t\/cG (.mk k n a s Y V code)=false\/200<s.length)):bJ (.mk k n a s Y V code) t =
  (if k=1\/k=6 then decide (n=0/\Y.length=0)
  else if k=2 then decide (0<=n/\n<=1/\Y.length=0)
  else if k=3 then decide (-bL<=n/\n<=bL/\Y.length=0)
  else if k=4\/k=5 then decide (0<=n/\n<=bL/\Y.length=0)
  else if k=7 then decide (0<=n/\n<12/\Y.length=0)
  else if k=9 then decide (n=0/\Y.length<=1)&&aS Y (aL t 0)
  else if k=10 then decide (n=0/\Y.length<=24)&&aS Y (aL t 0)
  else if k=11 then decide (n=0/\Y.length=2)&&dM Y (aQ t)
  else if k=12 then decide (0<=n/\n<=1/\Y.length=1)&&aS Y (aL t n.toNat)
  else if k=13 then decide (n=0/\Y.length<=24)&&sJ (.mk 11 (aQ t)) none Y
  else if k=14 then cx (aL t 0) (V.getD 0 kg)&&cx (aL t 1) (V.getD 1 kg)
  else if k=15 then decide (1<=n/\n<=bL/\0<=a/\a<12/\Y.length=1)&&aS Y (aL t 0)
  else if k=8 then decide (0<=n/\n<=bL/\0<=a/\a<12/\Y.length=1)&&bA (V.getD 0 kg)&&aS Y (V.getD 0 kg)
  else false):=by
 simp only[bJ,if_neg h,Yg,ali]
attribute [local irreducible] AK ag aZ bS ee kN bJ aS dM oF qj cx gS rJ mq yw fS cG sJ upB Cu bA
def J0(t:Ty)(l:Ξ)(M:∀x∈l,af 57 [ct t,bz x] (.bool (bJ x t)))(Y:l.length<=1099511627776) :
  af 74 [ct t,.sl 7 (aa l)] (.bool (aS l t)):=by
 obtain⟨T,S⟩:=t;have A:∀x∈l,af 91 (bz x::[.ip [.int .i64 T,.sl 2 (az S)]]) (.bool (!bJ x (.mk T S))):=by intro x O;have W:=M x O;obtain⟨U,C,H,E,q,K,V⟩:=x;exact qdq func91 call91
 have Q:=wA l (λx => !bJ x (.mk T S)) 91 [.ip [.int .i64 T,.sl 2 (az S)]] A Y;rw[<- Ga];refine qn func74 call74 λβ hf=>?_;refine AK.seq ?_;refine AK.region mixed Z ?_
 repeat' (first|refine so ?_)
 refine AK.freeze 2 Z Z Z Z ?_;exact dq
def ag9(k n a:Int)(Y:Ξ)(V:Γ)(t:Ty):Bool :=
  if k=1\/k=6 then decide (n=0/\Y.length=0)
  else if k=2 then decide (0<=n/\n<=1/\Y.length=0)
  else if k=3 then decide (-bL<=n/\n<=bL/\Y.length=0)
  else if k=4\/k=5 then decide (0<=n/\n<=bL/\Y.length=0)
  else if k=7 then decide (0<=n/\n<12/\Y.length=0)
  else if k=9 then decide (n=0/\Y.length<=1)&&aS Y (aL t 0)
  else if k=10 then decide (n=0/\Y.length<=24)&&aS Y (aL t 0)
  else if k=11 then decide (n=0/\Y.length=2)&&dM Y (aQ t)
  else if k=12 then decide (0<=n/\n<=1/\Y.length=1)&&aS Y (aL t n.toNat)
  else if k=13 then decide (n=0/\Y.length<=24)&&sJ (.mk 11 (aQ t)) none Y
  else if k=14 then cx (aL t 0) (V.getD 0 kg)&&cx (aL t 1) (V.getD 1 kg)
  else if k=15 then decide (1<=n/\n<=bL/\0<=a/\a<12/\Y.length=1)&&aS Y (aL t 0)
  else if k=8 then decide (0<=n/\n<=bL/\0<=a/\a<12/\Y.length=1)&&bA (V.getD 0 kg)&&aS Y (V.getD 0 kg)
  else false
def DS(n:Int):yE n=decide (-bL<=n/\n<=bL):=by unfold yE;rw[aiO];simp[bL]
def ae9{x:Vl}{u q:Ty}(h:bJ x (.mk 11 [u,q])):∃n a s U code y z,x = .mk 11 n a s [y,z] U code/\bJ y u/\bJ z q:=by
 obtain⟨k,n,a,s,T,U,code⟩:=x;obtain⟨S,Q,B⟩:=sU h;have W:k=11:=S;subst W;rw[ab3 _ _ _ _ _ _ _ _ (by rintro(h|h|h);exact h S;rw[Q]at h;cases h;omega)]at h;have Y:(decide (n=0/\T.length=2)&&dM T [u,q]):=h;simp at Y;obtain⟨y,z,rfl⟩:=aej Y.1.2;have V:(bJ y u&&(bJ z q&&dM [] [])):=by have:=Y.2;unfold dM at this;unfold dM at this;exact this
 grind
def Sc{l:Γ}(h:l.length=1):∃x,l=[x]:=by
 match l,h with
 |[x],_=>exact⟨x,Z⟩
def Sd{k:Int}{m:Nat}(h:arity k=(m:Int)):1<=k/\k<=15:=by unfold arity at h;split at h<;>omega
def ajw(x:Ty)(l:Γ)(d:Ty):(x::l).getD 0 d=x:=rfl
def nw{t:Ty}(h:bA t):iS t=false:=by
 cases U:iS t with
 |false=>rfl
 |true =>
  have Y:=HU t 24 300 U;rw[Lb,h]at Y;cases Y
def pre(l:Ξ)(i:Nat):Option Vl:=if i=0 then none else l[i-1]?
def Ej:∀(v:Vl)(t:Ty),iS t=false->aG v<=8589934593->bh t<=8589934593->af 57 [ct t,bz v] (.bool (bJ v t))
 |.mk k n a s F z code,.mk T j,hb,hv,ht=>by
  simp only[aG]at hv;simp only[bh]at ht;have Fg:=iT F;have A:∀x∈F,∀u,iS u=false->bh u<=8589934593->af 57 [ct u,bz x] (.bool (bJ x u)):=λx O u o m=>Ej x u o sy m;have M:=Sz (.mk k n a s F z code);by_cases d1:k=T;rotate_left;have e1:(k != T):=(by simpa using d1);rw[Vm _ _ _ _ _ _ _ _ (.inl d1)];exact qdq func57 call57;subst d1;have e1:(k != k)=false:=by simp
  by_cases d2:cG (.mk k n a s F z code)=false;rw[Vm _ _ _ _ _ _ _ _ (.inr (.inl d2))];rw[d2]at M;exact qdq func57 call57;have ω:cG (.mk k n a s F z code):=by simpa using d2
  rw[ω]at M;by_cases d3:200<s.length;have e3:decide ((s.length:Int)>200):=(by simp;omega);rw[Vm _ _ _ _ _ _ _ _ (.inr (.inr d3))];exact qdq func57 call57;have e3:decide ((s.length:Int)>200)=false:=by simp;omega
  have ZW:bJ (.mk k n a s F z code) (.mk k j)=ag9 k n a F z (.mk k j):=ab3 _ _ _ _ _ _ _ _ (by rintro(h|h|h);exact h rfl;exact d2 h;exact d3 h);rw[ZW];obtain⟨SC,I⟩:=jw hb;simp only[cL,aQ]at SC I;have Y:cG (.mk k n a s F z code):=ω;rw[Sy]at Y;clear ZW d2 ω d3;by_cases c:k=1
  ·subst c;show aZ _ _ _ _ (.bool (decide (n=0/\F.length=0)));rw[<- aE];refine qn func57 call57 λβ hf=>?_
   repeat' (first|refine sz ?_|refine zc ?_ ?_|(intro h;first|(cases h;done)|rw[h]|skip)|refine uC Z M ?_)
   all_goals
    show(_:CV)=_;clear hf M A Y;refine ahm CV.bool ?_;generalize (aa F).length=Ll at *;rw[aiO]
    (try simp_all [bL])<;>(try omega)
  by_cases c:k=6
  ·subst c;show aZ _ _ _ _ (.bool (decide (n=0/\F.length=0)));rw[<- aE];refine qn func57 call57 λβ hf=>?_
   repeat' (first|refine sz ?_|refine zc ?_ ?_|(intro h;first|(cases h;done)|rw[h]|skip)|refine uC Z M ?_)
   all_goals
    show(_:CV)=_;clear hf M A Y;refine ahm CV.bool ?_;generalize (aa F).length=Ll at *;rw[aiO]
    (try simp_all [bL])<;>(try omega)
  by_cases c:k=2
  ·subst c;show aZ _ _ _ _ (.bool (decide (0<=n/\n<=1/\F.length=0)));rw[<- aE];refine qn func57 call57 λβ hf=>?_
   repeat' (first|refine sz ?_|refine zc ?_ ?_|(intro h;first|(cases h;done)|rw[h]|skip)|refine uC Z M ?_)
   all_goals
    show(_:CV)=_;clear hf M A Y;refine ahm CV.bool ?_;generalize (aa F).length=Ll at *;rw[aiO]
    (try simp_all [bL])<;>(try omega)
  by_cases c:k=3
  ·subst c;show aZ _ _ _ _ (.bool (decide (-bL<=n/\n<=bL/\F.length=0)));have o:=ld n;rw[DS]at o;rw[<- aE];refine qn func57 call57 λβ hf=>?_
   repeat' (first|refine sz ?_|refine zc ?_ ?_|(intro h;first|(cases h;done)|rw[h]|skip)|refine uC Z M ?_|refine uC Z o ?_)
   all_goals
    show(_:CV)=_;clear hf M A Y o;refine ahm CV.bool ?_;generalize (aa F).length=Ll at *;rw[aiO]
    (try simp_all [bL])<;>(try omega)
  by_cases c:k=4
  ·subst c;show aZ _ _ _ _ (.bool (decide (0<=n/\n<=bL/\F.length=0)));have o:=ld n;rw[DS]at o;rw[<- aE];refine qn func57 call57 λβ hf=>?_
   repeat' (first|refine sz ?_|refine zc ?_ ?_|(intro h;first|(cases h;done)|rw[h]|skip)|refine uC Z M ?_|refine uC Z o ?_)
   all_goals
    show(_:CV)=_;clear hf M A Y o;refine ahm CV.bool ?_;generalize (aa F).length=Ll at *;rw[aiO]
    (try simp_all [bL])<;>(try omega)
  by_cases c:k=5
  ·subst c;show aZ _ _ _ _ (.bool (decide (0<=n/\n<=bL/\F.length=0)));have o:=ld n;rw[DS]at o;rw[<- aE];refine qn func57 call57 λβ hf=>?_
   repeat' (first|refine sz ?_|refine zc ?_ ?_|(intro h;first|(cases h;done)|rw[h]|skip)|refine uC Z M ?_|refine uC Z o ?_)
   all_goals
    show(_:CV)=_;clear hf M A Y o;refine ahm CV.bool ?_;generalize (aa F).length=Ll at *;rw[aiO]
    (try simp_all [bL])<;>(try omega)
  by_cases c:k=7
  ·subst c;show aZ _ _ _ _ (.bool (decide (0<=n/\n<12/\F.length=0)));have o:=vO n;rw[<- aE];refine qn func57 call57 λβ hf=>?_
   repeat' (first|refine sz ?_|refine zc ?_ ?_|(intro h;first|(cases h;done)|rw[h]|skip)|refine uC Z M ?_|refine uC Z o ?_)
   all_goals
    show(_:CV)=_;clear hf M A Y o;refine ahm CV.bool ?_;generalize (aa F).length=Ll at *;rw[aiO]
    (try simp_all [bL])<;>(try omega)
  by_cases c:k=9
  ·subst c;show aZ _ _ _ _ (.bool (decide (n=0/\F.length<=1)&&aS F (aL (.mk 9 j) 0)));obtain⟨u,rfl⟩:=Sc (show j.length=1 by(have:arity 9=1:=by decide);omega);show aZ _ _ _ _ (.bool (decide (n=0/\F.length<=1)&&aS F u));have K:iS u=false:=dP I cS;have Q:bh u<=8589934593:=by have:=cN (l:=[u]) (x:=u) cS;omega
   have o:=J0 u F (λx O=>A x O u K Q) ai;have f:[u][0]?=some u:=rfl;obtain⟨U,us⟩:=u;refine qn func57 call57 λβ hf=>?_
   repeat' (first|refine sz ?_|refine zc ?_ ?_|(intro h;first|(cases h;done)|rw[h]|skip)|refine uC Z M ?_|refine uC Z o ?_|refine uI Z (0) Z (ij f) Z ?_)
   all_goals
    show(_:CV)=_;clear hf M A Y o
    (try simp_all [aE])<;>(try omega)
  by_cases c:k=10
  ·subst c;show aZ _ _ _ _ (.bool (decide (n=0/\F.length<=24)&&aS F (aL (.mk 10 j) 0)));obtain⟨u,rfl⟩:=Sc (show j.length=1 by(have:arity 10=1:=by decide);omega);show aZ _ _ _ _ (.bool (decide (n=0/\F.length<=24)&&aS F u));have K:iS u=false:=dP I cS;have Q:bh u<=8589934593:=by have:=cN (l:=[u]) (x:=u) cS;omega
   have o:=J0 u F (λx O=>A x O u K Q) ai;have f:[u][0]?=some u:=rfl;obtain⟨U,us⟩:=u;refine qn func57 call57 λβ hf=>?_
   repeat' (first|refine sz ?_|refine zc ?_ ?_|(intro h;first|(cases h;done)|rw[h]|skip)|refine uC Z M ?_|refine uC Z o ?_|refine uI Z (0) Z (ij f) Z ?_)
   all_goals
    show(_:CV)=_;clear hf M A Y o
    (try simp_all [aE])<;>(try omega)
  by_cases c:k=11
  ·subst c;show aZ _ _ _ _ (.bool (decide (n=0/\F.length=2)&&dM F j));obtain⟨u,q,rfl⟩:=FE (show j.length=2 by(have:arity 11=2:=by decide);omega);by_cases E:F.length=2
   ·obtain⟨x,y,rfl⟩:=aej E;have K:iS u=false:=dP I cS;have ψ:iS q=false:=dP I cS;have Q:bh u<=8589934593:=(by have:=cN (l:=[u,q]) (x:=u) cS;omega);have H:bh q<=8589934593:=(by have:=cN (l:=[u,q]) (x:=q) cS;omega);have o:=A x cS u K Q;have m:=A y cS q ψ H;have f:[u,q][0]?=some u:=rfl;have C:[u,q][1]?=some q:=rfl;have G:[x,y][0]?=some x:=rfl;have g4:[x,y][1]?=some y:=rfl;have P:(decide (n=0/\[x,y].length=2)&&dM [x,y] [u,q])=(decide (n=0)&&(bJ x u&&bJ y q)):=(by rw[show dM [x,y] [u,q]=(bJ x u&&bJ y q)from by unfold dM;unfold dM;unfold dM;simp];simp);rw[P];clear P Y;generalize bJ x u=B at o;generalize bJ y q=b2 at m;obtain⟨U,us⟩:=u;obtain⟨U',us'⟩:=q;obtain⟨x1,d,x3,x4,x5,x6,x7⟩:=x;obtain⟨y1,y2,y3,y4,y5,y6,y7⟩:=y;refine qn func57 call57 λβ hf=>?_
    repeat' (first|refine sz ?_|refine zc ?_ ?_|(intro h;first|(cases h;done)|rw[h]|skip)|refine uC Z M ?_|refine uC Z o ?_|refine uC Z m ?_|refine uI Z (0) Z (ij f) Z ?_|refine uI Z (1) Z (ij C) Z ?_|refine uI Z (0) Z (eV G) Z ?_|refine uI Z (1) Z (eV g4) Z ?_)
    all_goals
     show(_:CV)=_;clear hf M A o m;simp_all [aE]
     try (intro DW;cases B<;>simp_all)
   have P:((((aa F).length:Nat):Int)==2)=false:=(by rw[aE];simp;omega);refine qn func57 call57 λβ hf=>?_
   repeat' (first|refine sz ?_|refine zc ?_ ?_|(intro h;first|(cases h;done)|rw[h]|skip)|refine uC Z M ?_)
   all_goals
    show(_:CV)=_;clear hf M A Y;simp_all
  by_cases c:k=12
  ·subst c;show aZ _ _ _ _ (.bool (decide (0<=n/\n<=1/\F.length=1)&&aS F (aL (.mk 12 j) n.toNat)));obtain⟨u,q,rfl⟩:=FE (show j.length=2 by(have:arity 12=2:=by decide);omega);by_cases E:F.length=1
   ·obtain⟨x,rfl⟩:=Vk E;have K:iS u=false:=dP I cS;have ψ:iS q=false:=dP I cS;have Q:bh u<=8589934593:=(by have:=cN (l:=[u,q]) (x:=u) cS;omega);have H:bh q<=8589934593:=(by have:=cN (l:=[u,q]) (x:=q) cS;omega);have o:=A x cS u K Q;have m:=A x cS q ψ H;have f:[u,q][0]?=some u:=rfl;have C:[u,q][1]?=some q:=rfl;have G:[x][0]?=some x:=rfl;have ev:∀w,aS [x] w=bJ x w:=λw=>by unfold aS;unfold aS;simp
    rw[ev];clear ev Y;by_cases n0:n=0
    ·subst n0;show aZ _ _ _ _ (.bool (decide ((0:Int)<=0/\(0:Int)<=1/\[x].length=1)&&bJ x u));clear m;generalize bJ x u=B at o;obtain⟨U,us⟩:=u;obtain⟨x1,d,x3,x4,x5,x6,x7⟩:=x;refine qn func57 call57 λβ hf=>?_
     repeat' (first|refine sz ?_|refine zc ?_ ?_|(intro h;first|(cases h;done)|rw[h]|skip)|refine uC Z M ?_|refine uC Z o ?_|refine uI Z (0) Z (ij f) Z ?_|refine uI Z (0) Z (eV G) Z ?_)
     all_goals
      show(_:CV)=_;clear hf M A o;simp_all [aE]
    by_cases n1:n=1
    ·subst n1;show aZ _ _ _ _ (.bool (decide ((0:Int)<=1/\(1:Int)<=1/\[x].length=1)&&bJ x q));clear o;generalize bJ x q=B at m;obtain⟨U,us⟩:=q;obtain⟨x1,d,x3,x4,x5,x6,x7⟩:=x;refine qn func57 call57 λβ hf=>?_
     repeat' (first|refine sz ?_|refine zc ?_ ?_|(intro h;first|(cases h;done)|rw[h]|skip)|refine uC Z M ?_|refine uC Z m ?_|refine uI Z (1) Z (ij C) Z ?_|refine uI Z (0) Z (eV G) Z ?_)
     all_goals
      show(_:CV)=_;clear hf M A m;simp_all [aE]
    rw[show decide (0<=n/\n<=1/\[x].length=1)=false from by simp;omega,ahT];by_cases n2:n<0;have P:decide (n>=0)=false:=(by simp;omega);exact qdq func57 call57;have P:decide (n>=0):=(by simp;omega);have e6:decide (n<=1)=false:=(by simp;omega);exact qdq func57 call57
   have P:((((aa F).length:Nat):Int)==1)=false:=(by rw[aE];simp;omega);refine qn func57 call57 λβ hf=>?_
   repeat' (first|refine sz ?_|refine zc ?_ ?_|(intro h;first|(cases h;done)|rw[h]|skip)|refine uC Z M ?_)
   all_goals
    show(_:CV)=_;clear hf M A Y;simp_all
  by_cases c:k=13
  ·subst c;show aZ _ _ _ _ (.bool (decide (n=0/\F.length<=24)&&sJ (.mk 11 j) none F));by_cases n0:n=0;rotate_left;have P:(n != 0):=(by simpa using n0);rw[show decide (n=0/\F.length<=24)=false from by simp[n0],ahT];exact qdq func57 call57;subst n0;by_cases E:F.length<=24;rotate_left;have P:decide ((((aa F).length:Nat):Int)>24):=(by rw[aE];simp;omega);rw[show decide ((0:Int)=0/\F.length<=24)=false from by simp;omega,ahT];exact qdq func57 call57;have P:decide ((((aa F).length:Nat):Int)>24)=false:=(by rw[aE];simp;omega);rw[show decide ((0:Int)=0/\F.length<=24) from by simp[E],aiM];obtain⟨u,q,rfl⟩:=FE (show j.length=2 by(have:arity 13=2:=by decide);omega);have K:iS u=false:=dP I cS;have κ:iS (.mk 11 [u,q])=false:=by simp only[iS,aiw];exact⟨by show decide (arity 11≠2)=false;decide,I⟩
   have ι:bh (.mk 11 [u,q])<=8589934593:=(by simp only[bh];omega);clear Y;refine qn func57 call57 λβ hf=>?_
   repeat' (first|refine sz ?_|refine zc ?_ ?_|(intro h;first|(cases h;done)|rw[h]|skip)|refine uC Z M ?_)
   refine AK.dg (α:=Nat) (λi=>i<=F.length/\sJ (.mk 11 [u,q]) none F=sJ (.mk 11 [u,q]) (pre F i) (F.drop i)/\∀p,pre F i=some p->p∈F/\bJ p (.mk 11 [u,q])) (λi=>F.length-i)
    (λi=>[(192,Υ i),(191,Υ (aa F).length),(190,.c (.sl 7 (aa F))),(2,.ptr 2 0),(3,.ptr 3 0)])
    (λ_=>[(2,[Υ 13,.c (.sl 2 (az [u,q]))]),(3,[Υ 13,Υ 0,Υ a,.c (.str s),.c (.sl 7 (aa F)),.c (.sl 2 (az z)),.c (.sl 5 (aD code))])]) (λ_=>[]) [2,3] 0
    ⟨ai,Z,λp h=>by simp[pre]at h⟩ ce ⟨Z,Z,trivial⟩ trivial Z Z Z ?_
   rintro i ⟨hi,W,ρ⟩ ih;rcases fU F i hi with ⟨x,O,hm⟩|he
   ·have hc:=nM O;have hq:=A x hm _ κ ι;have π:=bp O;rw[cT O]at W;have D:pre F (i+1)=some x:=(by simp only[pre,Nat.add_one_ne_zero,aiQ,akV];exact O);by_cases V:bJ x (.mk 11 [u,q]);rotate_left;have ο:bJ x (.mk 11 [u,q])=false:=(by simpa using V);rw[ο]at hq;have h0:sJ (.mk 11 [u,q]) none F=false:=(by rw[W];cases pre F i<;>simp only[As,Ar,ο,ahT]);rw[h0];clear W h0;obtain⟨x1,d,x3,x4,x5,x6,x7⟩:=x;have BB:=eV O;exact dq;rw[V]at hq;obtain⟨d,x3,x4,x6,x7,S,xv,rfl,θ,hxv⟩:=ae9 V;by_cases i0:i=0
    ·subst i0;have χ:sJ (.mk 11 [u,q]) none F=sJ (.mk 11 [u,q]) (some (.mk 11 d x3 x4 [S,xv] x6 x7)) (F.drop 1):=by rw[W];simp only[pre,if_true,Ar,V,aiM]
     repeat' (first|refine sz ?_|refine zc ?_ ?_|(intro h;first|(cases h;done)|rw[h]|skip)|refine uI Z (0) Z (eV O) Z ?_|refine uC Z hq ?_)
     refine AK.again (ih 1 ⟨π,?_,?_⟩ ai) ce ⟨Z,Z,trivial⟩ trivial Z Z Z;rw[χ,D];intro p M;rw[D]at M;cases M;exact⟨hm,V⟩
    have ei:decide ((i:Int)>0):=(by simp;omega);obtain⟨p,υ⟩:∃p,F[i-1]?=some p:=⟨F[i-1]' ai,cS⟩;have ξ:pre F i=some p:=(by simp only[pre,if_neg i0];exact υ);obtain⟨η,ζ⟩:=ρ p ξ;have Pg:i64.wrap ((i:Int)-1)=((i-1:Nat):Int):=(by rw[gW ai ai];omega);have ε:=dV η;obtain⟨p2,p3,p4,p6,p7,N,pv,rfl,δ,hpv⟩:=ae9 ζ;have ν:=qH N S u K δ θ (by simp only[aG,aH]at ε;omega);have J:sJ (.mk 11 [u,q]) none F=(decide (ee N S<0)&&sJ (.mk 11 [u,q]) (some (.mk 11 d x3 x4 [S,xv] x6 x7)) (F.drop (i+1))):=(by rw[W,ξ];rw[As];rw[V,aiM];rfl);have f:[N,pv][0]?=some N:=rfl;have C:[S,xv][0]?=some S:=rfl;by_cases μ:ee N S<0
    ·have ec:decide (ee N S>=0)=false:=(by simp;omega);rw[show decide (ee N S<0) from by simpa using μ,aiM]at J;obtain⟨a1,a2,a3,a4,a5,a6,a7⟩:=S;obtain⟨B,b2,b3,b4,b5,b6,b7⟩:=N
     repeat' (first|refine sz ?_|refine zc ?_ ?_|(intro h;first|(cases h;done)|rw[h]|skip)|refine uI Z (i) Z (eV O) Z ?_|refine uC Z hq ?_|refine ag.index hX Z Z Z Z Z Z Z Z Z Z (i-1) Pg (eV υ) Z ?_|refine uI Z (0) Z (eV f) Z ?_|refine uI Z (0) Z (eV C) Z ?_|refine uC Z ν ?_)
     refine AK.again (ih (i+1) ⟨π,?_,?_⟩ ai) ⟨.inl (dz ai),.inl Z,.inl Z,.inl Z,.inl Z,trivial⟩ ⟨Z,Z,trivial⟩ trivial Z Z Z;rw[J,D];intro p M;rw[D]at M;cases M;exact⟨hm,V⟩
    have ec:decide (ee N S>=0):=(by simp;omega);rw[show decide (ee N S<0)=false from by simpa using μ,ahT]at J;rw[J];clear J W;obtain⟨a1,a2,a3,a4,a5,a6,a7⟩:=S;obtain⟨B,b2,b3,b4,b5,b6,b7⟩:=N
    repeat' (first|refine sz ?_|refine zc ?_ ?_|(intro h;first|(cases h;done)|rw[h]|skip)|refine uI Z (i) Z (eV O) Z ?_|refine uC Z hq ?_|refine ag.index hX Z Z Z Z Z Z Z Z Z Z (i-1) Pg (eV υ) Z ?_|refine uI Z (0) Z (eV f) Z ?_|refine uI Z (0) Z (eV C) Z ?_|refine uC Z ν ?_)
    all_goals rfl
   have hc:=kP he;have h0:sJ (.mk 11 [u,q]) none F:=(by rw[W,he,aho];exact ab2 _ _);rw[h0];clear ih;exact dq
  by_cases c:k=14
  ·subst c;show aZ _ _ _ _ (.bool (cx (aL (.mk 14 j) 0) (z.getD 0 kg)&&cx (aL (.mk 14 j) 1) (z.getD 1 kg)));obtain⟨u,q,rfl⟩:=FE (show j.length=2 by(have:arity 14=2:=by decide);omega)
   obtain⟨w,w',rfl⟩:=FE (show z.length=2 by
    have h:decide (z.length=2/\a=0/\n=0/\s=[]/\F.length=0):=Y
    simp only[aiP]at h;exact h.1)
   show aZ _ _ _ _ (.bool (cx u w&&cx q w'));have Q:bh u<=8589934593:=(by have:=cN (l:=[u,q]) (x:=u) cS;omega);have H:bh q<=8589934593:=(by have:=cN (l:=[u,q]) (x:=q) cS;omega);have o:=gC u w ai;have m:=gC q w' ai;have f:[u,q][0]?=some u:=rfl;have C:[u,q][1]?=some q:=rfl;have G:[w,w'][0]?=some w:=rfl;have g4:[w,w'][1]?=some w':=rfl;generalize cx u w=B at o;generalize cx q w'=b2 at m;clear Y;obtain⟨u1,u2⟩:=u;obtain⟨u3,u4⟩:=q;obtain⟨w1,w2⟩:=w;obtain⟨w3,w4⟩:=w';refine qn func57 call57 λβ hf=>?_
   repeat' (first|refine sz ?_|refine zc ?_ ?_|(intro h;first|(cases h;done)|rw[h]|skip)|refine uC Z M ?_|refine uC Z o ?_|refine uC Z m ?_|refine uI Z (0) Z (ij f) Z ?_|refine uI Z (1) Z (ij C) Z ?_|refine uI Z (0) Z (ij G) Z ?_|refine uI Z (1) Z (ij g4) Z ?_)
   all_goals
    show(_:CV)=_;clear hf M A o m;simp_all
  by_cases c:k=15
  ·subst c;show aZ _ _ _ _ (.bool (decide (1<=n/\n<=bL/\0<=a/\a<12/\F.length=1)&&aS F (aL (.mk 15 j) 0)));obtain⟨u,rfl⟩:=Sc (show j.length=1 by(have:arity 15=1:=by decide);omega);have o:=ld n;rw[DS]at o;have m:=vO a;by_cases E:F.length=1
   ·obtain⟨x,rfl⟩:=Vk E;have K:iS u=false:=dP I cS;have Q:bh u<=8589934593:=(by have:=cN (l:=[u]) (x:=u) cS;omega);have h3:=A x cS u K Q;have f:[u][0]?=some u:=rfl;have G:[x][0]?=some x:=rfl;rw[show aS [x] (aL (.mk 15 [u]) 0)=bJ x u from by unfold aS;unfold aS;simp[aL,aQ]];generalize bJ x u=B at h3;obtain⟨U,us⟩:=u;obtain⟨x1,d,x3,x4,x5,x6,x7⟩:=x;refine qn func57 call57 λβ hf=>?_
    repeat' (first|refine sz ?_|refine zc ?_ ?_|(intro h;first|(cases h;done)|rw[h]|skip)|refine uC Z M ?_|refine uC Z o ?_|refine uC Z m ?_|refine uC Z h3 ?_|refine uI Z (0) Z (ij f) Z ?_|refine uI Z (0) Z (eV G) Z ?_)
    all_goals
     show(_:CV)=_;clear hf M A o m h3 Y
     (try simp_all [bL,aE])<;>(try omega)
   have P:((((aa F).length:Nat):Int)==1)=false:=(by rw[aE];simp;omega);refine qn func57 call57 λβ hf=>?_
   repeat' (first|refine sz ?_|refine zc ?_ ?_|(intro h;first|(cases h;done)|rw[h]|skip)|refine uC Z M ?_|refine uC Z o ?_|refine uC Z m ?_)
   all_goals
    show(_:CV)=_;clear hf M A o m Y;simp_all
  by_cases c:k=8
  ·subst c;show aZ _ _ _ _ (.bool (decide (0<=n/\n<=bL/\0<=a/\a<12/\F.length=1)&&bA (z.getD 0 kg)&&aS F (z.getD 0 kg)))
   obtain⟨u,rfl⟩:=Sc (show z.length=1 by
    have h:decide (z.length=1/\code.length=0/\s=[]):=Y
    simp only[aiP]at h;exact h.1)
   have o:=ld n;rw[DS]at o;have m:=vO a;by_cases E:F.length=1
   ·obtain⟨x,rfl⟩:=Vk E;have Q:bh u<=8589934593:=(by have:=cN (l:=[u]) (x:=u) cS;omega);have hg:=mH u Q;have f:[u][0]?=some u:=rfl;have G:[x][0]?=some x:=rfl;rw[show aS [x] ([u].getD 0 kg)=bJ x u from by unfold aS;unfold aS;simp];rw[ajw];by_cases τ:bA u
    ·have h3:=A x cS u (nw τ) Q;rw[τ]at hg ⊢;generalize bJ x u=B at h3;obtain⟨U,us⟩:=u;obtain⟨x1,d,x3,x4,x5,x6,x7⟩:=x;refine qn func57 call57 λβ hf=>?_
     repeat' (first|refine sz ?_|refine zc ?_ ?_|(intro h;first|(cases h;done)|rw[h]|skip)|refine uC Z M ?_|refine uC Z o ?_|refine uC Z m ?_|refine uC Z hg ?_|refine uC Z h3 ?_|refine uI Z (0) Z (ij f) Z ?_|refine uI Z (0) Z (eV G) Z ?_)
     all_goals
      show(_:CV)=_;clear hf M A o m h3 hg Y
      (try simp_all [bL,aE])<;>(try omega)
    have γ:bA u=false:=(by simpa using τ);rw[γ]at hg ⊢;obtain⟨U,us⟩:=u;refine qn func57 call57 λβ hf=>?_
    repeat' (first|refine sz ?_|refine zc ?_ ?_|(intro h;first|(cases h;done)|rw[h]|skip)|refine uC Z M ?_|refine uC Z o ?_|refine uC Z m ?_|refine uC Z hg ?_|refine uI Z (0) Z (ij f) Z ?_)
    all_goals
     show(_:CV)=_;clear hf M A o m hg Y;simp_all [bL]
   have P:((((aa F).length:Nat):Int)==1)=false:=(by rw[aE];simp;omega);refine qn func57 call57 λβ hf=>?_
   repeat' (first|refine sz ?_|refine zc ?_ ?_|(intro h;first|(cases h;done)|rw[h]|skip)|refine uC Z M ?_|refine uC Z o ?_|refine uC Z m ?_)
   all_goals
    show(_:CV)=_;clear hf M A o m Y;simp_all
  exfalso;have:=Sd SC;omega
termination_by v=>SizeOf.sizeOf v
decreasing_by
 have:=ahx O;simp at this ⊢;omega
end Go.Proofs
