/- What each and has of package value answer. -/
import Derived.Test.YtdnpapgijbhofaaGreatDoorVal2
import Derived.Test.YtdnpapgijbhofaaGreatDoorChk3
import Derived.Test.YtdnpapgijbhofaaGreatDoorTPure
open Go.IntKind
open Go.Proofs.Tryz
set_option linter.defProp false
set_option maxHeartbeats 0
set_option linter.unusedVariables false
set_option linter.unusedSimpArgs false
set_option maxRecDepth 100000
namespace Go.Proofs
open Go.cw
def Eu(t:Ty):∀(l:L Vl),(!(l.any λx => !bE x t))=aL l t
 |[]=>rfl
 |x::l=>by simp only[aL,<- Eu t l,ahW];cases bE x t<;>simp
def upB:L Vl->Bool
 |[]=>true
 |[_]=>true
 |x::y::l=>decide (dS (nH x) (nH y)<0)&&upB (y::l)
def Zy:∀l:L Vl,Bl l=upB l
 |[]=>rfl
 |[_]=>rfl
 |x::y::l=>by have:=Zy (y::l);simp only[upB,<- this];rfl
def ru(t:Ty):Option Vl->L Vl->Bool
 |_,[]=>true
 |none,x::l=>bE x t&&ru t (some x) l
 |some p,x::l=>bE x t&&(decide (dS (nH p) (nH x)<0)&&ru t (some x) l)
def Kw(t:Ty):∀(l:L Vl)(p:Vl),ru t (some p) l=(aL l t&&upB (p::l))
 |[],p=>by simp[ru,aL,upB]
 |x::l,p=>by simp only[ru,aL,upB,Kw t l x];grind
def V1(t:Ty)(l:L Vl):ru t none l=(aL l t&&Bl l):=by
 rw[Zy];cases l with
 |nil=>rfl
 |cons x l =>
  simp only[ru,aL,Kw];grind
def Zz(t:Ty)(p:Option Vl):ru t p []=true:=by cases p<;>rfl
def yQ(t:Ty)(x:Vl)(l:L Vl):ru t none (x::l)=(bE x t&&ru t (some x) l):=rfl
def yR(t:Ty)(p x:Vl)(l:L Vl):ru t (some p) (x::l)=(bE x t&&(decide (dS (nH p) (nH x)<0)&&ru t (some x) l)):=rfl
def SM(k n a:Int)(s:L UInt8)(M:L Vl)(V:L Ty)(code:L Nd)(t:Ty)(h:k≠dD t\/cA (.mk k n a s M V code)=false\/200<s.length):bE (.mk k n a s M V code) t=false:=by simp only[bE,if_pos h]
def ZA(k n a:Int)(s:L UInt8)(M:L Vl)(V:L Ty)(code:L Nd)(t:Ty)(h:¬(k≠dD t\/cA (.mk k n a s M V code)=false\/200<s.length)):bE (.mk k n a s M V code) t =
  (if k=1\/k=6 then decide (n=0/\M.length=0)
  else if k=2 then decide (0<=n/\n<=1/\M.length=0)
  else if k=3 then decide (-bJ<=n/\n<=bJ/\M.length=0)
  else if k=4\/k=5 then decide (0<=n/\n<=bJ/\M.length=0)
  else if k=7 then decide (0<=n/\n<12/\M.length=0)
  else if k=9 then decide (n=0/\M.length<=1)&&aL M (aU t 0)
  else if k=10 then decide (n=0/\M.length<=24)&&aL M (aU t 0)
  else if k=11 then decide (n=0/\M.length=2)&&dA M (aV t)
  else if k=12 then decide (0<=n/\n<=1/\M.length=1)&&aL M (aU t n.toNat)
  else if k=13 then decide (n=0/\M.length<=24)&&ru (.mk 11 (aV t)) none M
  else if k=14 then cV (aU t 0) (V.getD 0 lJ)&&cV (aU t 1) (V.getD 1 lJ)
  else if k=15 then decide (1<=n/\n<=bJ/\0<=a/\a<12/\M.length=1)&&aL M (aU t 0)
  else if k=8 then decide (0<=n/\n<=bJ/\0<=a/\a<12/\M.length=1)&&br (V.getD 0 lJ)&&aL M (V.getD 0 lJ)
  else false):=by
 simp only[bE,if_neg h,V1,aiB]
attribute [local irreducible] AK ah aR bM dS jY bE aL dA rY pS cV gP qA lI wV fm cA ru upB Bl br
def Ie(t:Ty)(l:L Vl)(B:∀x∈l,af 72 [cU t,bA x] (.bool (bE x t)))(S:l.length<=1099511627776) :
  af 94 [cU t,.sl 7 (aa l)] (.bool (aL l t)):=by
 obtain⟨T,ts⟩:=t;have Y:∀x∈l,af 111 (bA x::[.ip [.int .i64 T,.sl 2 (az ts)]]) (.bool (!bE x (.mk T ts))):=by intro x D;have W:=B x D;obtain⟨J,Q,O,V,U,M,A⟩:=x;exact qdq func111 call111
 have hq:=uL l (λx => !bE x (.mk T ts)) 111 [.ip [.int .i64 T,.sl 2 (az ts)]] Y S;rw[<- Eu];refine qn func94 call94 λβ hf=>?_;refine AK.seq ?_;refine AK.region mixed Z ?_
 repeat' (first|refine so ?_)
 refine AK.freeze 2 Z Z Z Z ?_;exact dq
def aei(k n a:Int)(M:L Vl)(V:L Ty)(t:Ty):Bool :=
  if k=1\/k=6 then decide (n=0/\M.length=0)
  else if k=2 then decide (0<=n/\n<=1/\M.length=0)
  else if k=3 then decide (-bJ<=n/\n<=bJ/\M.length=0)
  else if k=4\/k=5 then decide (0<=n/\n<=bJ/\M.length=0)
  else if k=7 then decide (0<=n/\n<12/\M.length=0)
  else if k=9 then decide (n=0/\M.length<=1)&&aL M (aU t 0)
  else if k=10 then decide (n=0/\M.length<=24)&&aL M (aU t 0)
  else if k=11 then decide (n=0/\M.length=2)&&dA M (aV t)
  else if k=12 then decide (0<=n/\n<=1/\M.length=1)&&aL M (aU t n.toNat)
  else if k=13 then decide (n=0/\M.length<=24)&&ru (.mk 11 (aV t)) none M
  else if k=14 then cV (aU t 0) (V.getD 0 lJ)&&cV (aU t 1) (V.getD 1 lJ)
  else if k=15 then decide (1<=n/\n<=bJ/\0<=a/\a<12/\M.length=1)&&aL M (aU t 0)
  else if k=8 then decide (0<=n/\n<=bJ/\0<=a/\a<12/\M.length=1)&&br (V.getD 0 lJ)&&aL M (V.getD 0 lJ)
  else false
def Cy(n:Int):xg n=decide (-bJ<=n/\n<=bJ):=by unfold xg;rw[afT];simp[bJ]
def acC{x:Vl}{u Y:Ty}(h:bE x (.mk 11 [u,Y])=true):∃n a s V code y z,x = .mk 11 n a s [y,z] V code/\bE y u=true/\bE z Y=true:=by
 obtain⟨k,n,a,s,M,V,code⟩:=x;obtain⟨h1,h2,K⟩:=rC h;have O:k=11:=h1;subst O;rw[ZA _ _ _ _ _ _ _ _ (by rintro(h|h|h);exact h h1;rw[h2]at h;cases h;omega)]at h;have W:(decide (n=0/\M.length=2)&&dA M [u,Y])=true:=h;simp at W;obtain⟨y,z,rfl⟩:=abQ W.1.2;have Q:(bE y u&&(bE z Y&&dA [] []))=true:=by have:=W.2;unfold dA at this;unfold dA at this;exact this
 grind
def PO{l:L Ty}(h:l.length=1):∃x,l=[x]:=by
 match l,h with
 |[x],_=>exact⟨x,Z⟩
def PR{k:Int}{m:Nat}(h:arity k=(m:Int)):1<=k/\k<=15:=by unfold arity at h;split at h<;>omega
def agG(x:Ty)(l:L Ty)(d:Ty):(x::l).getD 0 d=x:=rfl
def nQ{t:Ty}(h:br t=true):iC t=false:=by
 cases U:iC t with
 |false=>rfl
 |true =>
  have h1:=HM t 24 300 U;rw[Kf,h]at h1;cases h1
def pre(l:L Vl)(i:Nat):Option Vl:=if i=0 then none else l[i-1]?
def CW:∀(v:Vl)(t:Ty),iC t=false->aH v<=8589934593->bf t<=8589934593->af 72 [cU t,bA v] (.bool (bE v t))
 |.mk k n a s M V code,.mk T ts,hb,hv,ht=>by
  simp only[aH]at hv;simp only[bf]at ht;have Kz:=kI M;have Y:∀x∈M,∀u,iC u=false->bf u<=8589934593->af 72 [cU u,bA x] (.bool (bE x u)):=λx D u h1 h2=>CW x u h1 acL h2;have S:=P8 (.mk k n a s M V code);by_cases d1:k=T;rotate_left;have e1:(k != T)=true:=(by simpa using d1);rw[SM _ _ _ _ _ _ _ _ (.inl d1)];exact qdq func72 call72;subst d1;have e1:(k != k)=false:=by simp
  by_cases d2:cA (.mk k n a s M V code)=false;rw[SM _ _ _ _ _ _ _ _ (.inr (.inl d2))];rw[d2]at S;exact qdq func72 call72;have d2':cA (.mk k n a s M V code)=true:=by simpa using d2
  rw[d2']at S;by_cases d3:200<s.length;have e3:decide (((s.length:Nat):Int)>200)=true:=(by simp;omega);rw[SM _ _ _ _ _ _ _ _ (.inr (.inr d3))];exact qdq func72 call72;have e3:decide (((s.length:Nat):Int)>200)=false:=by simp;omega
  have XU:bE (.mk k n a s M V code) (.mk k ts)=aei k n a M V (.mk k ts):=ZA _ _ _ _ _ _ _ _ (by rintro(h|h|h);exact h rfl;exact d2 h;exact d3 h);rw[XU];obtain⟨Qb,G⟩:=jD hb;simp only[dD,aV]at Qb G;have Q:cA (.mk k n a s M V code)=true:=d2';rw[P7]at Q;clear XU d2 d2' d3;by_cases c:k=1
  ·subst c;show aR _ _ _ _ (.bool (decide (n=0/\M.length=0)));rw[<- aB];refine qn func72 call72 λβ hf=>?_
   repeat' (first|refine sz ?_|refine zc ?_ ?_|(intro h;first|(cases h;done)|rw[h]|skip)|refine uC Z S ?_)
   all_goals
    show(_:CV)=_;clear hf S Y Q;refine aeM CV.bool ?_;generalize (aa M).length=Ll at *;rw[afT]
    (try simp_all [bJ])<;>(try omega)
  by_cases c:k=6
  ·subst c;show aR _ _ _ _ (.bool (decide (n=0/\M.length=0)));rw[<- aB];refine qn func72 call72 λβ hf=>?_
   repeat' (first|refine sz ?_|refine zc ?_ ?_|(intro h;first|(cases h;done)|rw[h]|skip)|refine uC Z S ?_)
   all_goals
    show(_:CV)=_;clear hf S Y Q;refine aeM CV.bool ?_;generalize (aa M).length=Ll at *;rw[afT]
    (try simp_all [bJ])<;>(try omega)
  by_cases c:k=2
  ·subst c;show aR _ _ _ _ (.bool (decide (0<=n/\n<=1/\M.length=0)));rw[<- aB];refine qn func72 call72 λβ hf=>?_
   repeat' (first|refine sz ?_|refine zc ?_ ?_|(intro h;first|(cases h;done)|rw[h]|skip)|refine uC Z S ?_)
   all_goals
    show(_:CV)=_;clear hf S Y Q;refine aeM CV.bool ?_;generalize (aa M).length=Ll at *;rw[afT]
    (try simp_all [bJ])<;>(try omega)
  by_cases c:k=3
  ·subst c;show aR _ _ _ _ (.bool (decide (-bJ<=n/\n<=bJ/\M.length=0)));have h1:=kr n;rw[Cy]at h1;rw[<- aB];refine qn func72 call72 λβ hf=>?_
   repeat' (first|refine sz ?_|refine zc ?_ ?_|(intro h;first|(cases h;done)|rw[h]|skip)|refine uC Z S ?_|refine uC Z h1 ?_)
   all_goals
    show(_:CV)=_;clear hf S Y Q h1;refine aeM CV.bool ?_;generalize (aa M).length=Ll at *;rw[afT]
    (try simp_all [bJ])<;>(try omega)
  by_cases c:k=4
  ·subst c;show aR _ _ _ _ (.bool (decide (0<=n/\n<=bJ/\M.length=0)));have h1:=kr n;rw[Cy]at h1;rw[<- aB];refine qn func72 call72 λβ hf=>?_
   repeat' (first|refine sz ?_|refine zc ?_ ?_|(intro h;first|(cases h;done)|rw[h]|skip)|refine uC Z S ?_|refine uC Z h1 ?_)
   all_goals
    show(_:CV)=_;clear hf S Y Q h1;refine aeM CV.bool ?_;generalize (aa M).length=Ll at *;rw[afT]
    (try simp_all [bJ])<;>(try omega)
  by_cases c:k=5
  ·subst c;show aR _ _ _ _ (.bool (decide (0<=n/\n<=bJ/\M.length=0)));have h1:=kr n;rw[Cy]at h1;rw[<- aB];refine qn func72 call72 λβ hf=>?_
   repeat' (first|refine sz ?_|refine zc ?_ ?_|(intro h;first|(cases h;done)|rw[h]|skip)|refine uC Z S ?_|refine uC Z h1 ?_)
   all_goals
    show(_:CV)=_;clear hf S Y Q h1;refine aeM CV.bool ?_;generalize (aa M).length=Ll at *;rw[afT]
    (try simp_all [bJ])<;>(try omega)
  by_cases c:k=7
  ·subst c;show aR _ _ _ _ (.bool (decide (0<=n/\n<12/\M.length=0)));have h1:=ug n;rw[<- aB];refine qn func72 call72 λβ hf=>?_
   repeat' (first|refine sz ?_|refine zc ?_ ?_|(intro h;first|(cases h;done)|rw[h]|skip)|refine uC Z S ?_|refine uC Z h1 ?_)
   all_goals
    show(_:CV)=_;clear hf S Y Q h1;refine aeM CV.bool ?_;generalize (aa M).length=Ll at *;rw[afT]
    (try simp_all [bJ])<;>(try omega)
  by_cases c:k=9
  ·subst c;show aR _ _ _ _ (.bool (decide (n=0/\M.length<=1)&&aL M (aU (.mk 9 ts) 0)));obtain⟨u,rfl⟩:=PO (show ts.length=1 by(have:arity 9=1:=by decide);omega);show aR _ _ _ _ (.bool (decide (n=0/\M.length<=1)&&aL M u));have N:iC u=false:=dO G cc;have J:bf u<=8589934593:=by have:=cI (l:=[u]) (x:=u) cc;omega
   have h1:=Ie u M (λx D=>Y x D u N J) ai;have g1:[u][0]?=some u:=rfl;obtain⟨U,us⟩:=u;refine qn func72 call72 λβ hf=>?_
   repeat' (first|refine sz ?_|refine zc ?_ ?_|(intro h;first|(cases h;done)|rw[h]|skip)|refine uC Z S ?_|refine uC Z h1 ?_|refine uI Z (0) Z (gG g1) Z ?_)
   all_goals
    show(_:CV)=_;clear hf S Y Q h1
    (try simp_all [aB])<;>(try omega)
  by_cases c:k=10
  ·subst c;show aR _ _ _ _ (.bool (decide (n=0/\M.length<=24)&&aL M (aU (.mk 10 ts) 0)));obtain⟨u,rfl⟩:=PO (show ts.length=1 by(have:arity 10=1:=by decide);omega);show aR _ _ _ _ (.bool (decide (n=0/\M.length<=24)&&aL M u));have N:iC u=false:=dO G cc;have J:bf u<=8589934593:=by have:=cI (l:=[u]) (x:=u) cc;omega
   have h1:=Ie u M (λx D=>Y x D u N J) ai;have g1:[u][0]?=some u:=rfl;obtain⟨U,us⟩:=u;refine qn func72 call72 λβ hf=>?_
   repeat' (first|refine sz ?_|refine zc ?_ ?_|(intro h;first|(cases h;done)|rw[h]|skip)|refine uC Z S ?_|refine uC Z h1 ?_|refine uI Z (0) Z (gG g1) Z ?_)
   all_goals
    show(_:CV)=_;clear hf S Y Q h1
    (try simp_all [aB])<;>(try omega)
  by_cases c:k=11
  ·subst c;show aR _ _ _ _ (.bool (decide (n=0/\M.length=2)&&dA M ts));obtain⟨u,W,rfl⟩:=DW (show ts.length=2 by(have:arity 11=2:=by decide);omega);by_cases C:M.length=2
   ·obtain⟨x,y,rfl⟩:=abQ C;have N:iC u=false:=dO G cc;have hu':iC W=false:=dO G cc;have J:bf u<=8589934593:=(by have:=cI (l:=[u,W]) (x:=u) cc;omega);have B:bf W<=8589934593:=(by have:=cI (l:=[u,W]) (x:=W) cc;omega);have h1:=Y x cc u N J;have h2:=Y y cc W hu' B;have g1:[u,W][0]?=some u:=rfl;have g2:[u,W][1]?=some W:=rfl;have E:[x,y][0]?=some x:=rfl;have g4:[x,y][1]?=some y:=rfl;have q:(decide (n=0/\[x,y].length=2)&&dA [x,y] [u,W])=(decide (n=0)&&(bE x u&&bE y W)):=(by rw[show dA [x,y] [u,W]=(bE x u&&bE y W)from by unfold dA;unfold dA;unfold dA;simp];simp);rw[q];clear q Q;generalize bE x u=b1 at h1;generalize bE y W=b2 at h2;obtain⟨U,us⟩:=u;obtain⟨U',us'⟩:=W;obtain⟨x1,x2,x3,x4,x5,x6,x7⟩:=x;obtain⟨y1,y2,y3,y4,y5,y6,y7⟩:=y;refine qn func72 call72 λβ hf=>?_
    repeat' (first|refine sz ?_|refine zc ?_ ?_|(intro h;first|(cases h;done)|rw[h]|skip)|refine uC Z S ?_|refine uC Z h1 ?_|refine uC Z h2 ?_|refine uI Z (0) Z (gG g1) Z ?_|refine uI Z (1) Z (gG g2) Z ?_|refine uI Z (0) Z (fG E) Z ?_|refine uI Z (1) Z (fG g4) Z ?_)
    all_goals
     show(_:CV)=_;clear hf S Y h1 h2;simp_all [aB]
     try (intro FF;cases b1<;>simp_all)
   have q:((((aa M).length:Nat):Int)==2)=false:=(by rw[aB];simp;omega);refine qn func72 call72 λβ hf=>?_
   repeat' (first|refine sz ?_|refine zc ?_ ?_|(intro h;first|(cases h;done)|rw[h]|skip)|refine uC Z S ?_)
   all_goals
    show(_:CV)=_;clear hf S Y Q;simp_all
  by_cases c:k=12
  ·subst c;show aR _ _ _ _ (.bool (decide (0<=n/\n<=1/\M.length=1)&&aL M (aU (.mk 12 ts) n.toNat)));obtain⟨u,W,rfl⟩:=DW (show ts.length=2 by(have:arity 12=2:=by decide);omega);by_cases C:M.length=1
   ·obtain⟨x,rfl⟩:=SL C;have N:iC u=false:=dO G cc;have hu':iC W=false:=dO G cc;have J:bf u<=8589934593:=(by have:=cI (l:=[u,W]) (x:=u) cc;omega);have B:bf W<=8589934593:=(by have:=cI (l:=[u,W]) (x:=W) cc;omega);have h1:=Y x cc u N J;have h2:=Y x cc W hu' B;have g1:[u,W][0]?=some u:=rfl;have g2:[u,W][1]?=some W:=rfl;have E:[x][0]?=some x:=rfl;have ev:∀w,aL [x] w=bE x w:=λw=>by unfold aL;unfold aL;simp
    rw[ev];clear ev Q;by_cases n0:n=0
    ·subst n0;show aR _ _ _ _ (.bool (decide ((0:Int)<=0/\(0:Int)<=1/\[x].length=1)&&bE x u));clear h2;generalize bE x u=b1 at h1;obtain⟨U,us⟩:=u;obtain⟨x1,x2,x3,x4,x5,x6,x7⟩:=x;refine qn func72 call72 λβ hf=>?_
     repeat' (first|refine sz ?_|refine zc ?_ ?_|(intro h;first|(cases h;done)|rw[h]|skip)|refine uC Z S ?_|refine uC Z h1 ?_|refine uI Z (0) Z (gG g1) Z ?_|refine uI Z (0) Z (fG E) Z ?_)
     all_goals
      show(_:CV)=_;clear hf S Y h1;simp_all [aB]
    by_cases n1:n=1
    ·subst n1;show aR _ _ _ _ (.bool (decide ((0:Int)<=1/\(1:Int)<=1/\[x].length=1)&&bE x W));clear h1;generalize bE x W=b1 at h2;obtain⟨U,us⟩:=W;obtain⟨x1,x2,x3,x4,x5,x6,x7⟩:=x;refine qn func72 call72 λβ hf=>?_
     repeat' (first|refine sz ?_|refine zc ?_ ?_|(intro h;first|(cases h;done)|rw[h]|skip)|refine uC Z S ?_|refine uC Z h2 ?_|refine uI Z (1) Z (gG g2) Z ?_|refine uI Z (0) Z (fG E) Z ?_)
     all_goals
      show(_:CV)=_;clear hf S Y h2;simp_all [aB]
    rw[show decide (0<=n/\n<=1/\[x].length=1)=false from by simp;omega,afc];by_cases n2:n<0;have q:decide (n>=0)=false:=(by simp;omega);exact qdq func72 call72;have q:decide (n>=0)=true:=(by simp;omega);have e6:decide (n<=1)=false:=(by simp;omega);exact qdq func72 call72
   have q:((((aa M).length:Nat):Int)==1)=false:=(by rw[aB];simp;omega);refine qn func72 call72 λβ hf=>?_
   repeat' (first|refine sz ?_|refine zc ?_ ?_|(intro h;first|(cases h;done)|rw[h]|skip)|refine uC Z S ?_)
   all_goals
    show(_:CV)=_;clear hf S Y Q;simp_all
  by_cases c:k=13
  ·subst c;show aR _ _ _ _ (.bool (decide (n=0/\M.length<=24)&&ru (.mk 11 ts) none M));by_cases n0:n=0;rotate_left;have q:(n != 0)=true:=(by simpa using n0);rw[show decide (n=0/\M.length<=24)=false from by simp[n0],afc];exact qdq func72 call72;subst n0;by_cases C:M.length<=24;rotate_left;have q:decide ((((aa M).length:Nat):Int)>24)=true:=(by rw[aB];simp;omega);rw[show decide ((0:Int)=0/\M.length<=24)=false from by simp;omega,afc];exact qdq func72 call72;have q:decide ((((aa M).length:Nat):Int)>24)=false:=(by rw[aB];simp;omega);rw[show decide ((0:Int)=0/\M.length<=24)=true from by simp[C],afS];obtain⟨u,W,rfl⟩:=DW (show ts.length=2 by(have:arity 13=2:=by decide);omega);have N:iC u=false:=dO G cc;have hpb:iC (.mk 11 [u,W])=false:=by simp only[iC,afV];exact⟨by show decide (arity 11≠2)=false;decide,G⟩
   have hps:bf (.mk 11 [u,W])<=8589934593:=(by simp only[bf];omega);clear Q;refine qn func72 call72 λβ hf=>?_
   repeat' (first|refine sz ?_|refine zc ?_ ?_|(intro h;first|(cases h;done)|rw[h]|skip)|refine uC Z S ?_)
   refine AK.dN (α:=Nat) (λi=>i<=M.length/\ru (.mk 11 [u,W]) none M=ru (.mk 11 [u,W]) (pre M i) (M.drop i)/\∀p,pre M i=some p->p∈M/\bE p (.mk 11 [u,W])=true) (λi=>M.length-i)
    (λi=>[(192,.c (.int .i64 i)),(191,.c (.int .i64 (aa M).length)),(190,.c (.sl 7 (aa M))),(2,.ptr 2 0),(3,.ptr 3 0)])
    (λ_=>[(2,[.c (.int .i64 13),.c (.sl 2 (az [u,W]))]),(3,[.c (.int .i64 13),.c (.int .i64 0),.c (.int .i64 a),.c (.str s),.c (.sl 7 (aa M)),.c (.sl 2 (az V)),.c (.sl 5 (aD code))])]) (λ_=>[]) [2,3] 0
    ⟨ai,Z,λp h=>by simp[pre]at h⟩ ce ⟨Z,Z,trivial⟩ trivial Z Z Z ?_
   rintro i ⟨hi,H,hpre⟩ ih;rcases ie M i hi with ⟨x,D,hm⟩|he
   ·have hc:=xU D;have hq:=Y x hm _ hpb hps;have hlt:=bt D;rw[dK D]at H;have A:pre M (i+1)=some x:=(by simp only[pre,Nat.add_one_ne_zero,agL,aih];exact D);by_cases P:bE x (.mk 11 [u,W])=true;rotate_left;have hxf:bE x (.mk 11 [u,W])=false:=(by simpa using P);rw[hxf]at hq;have h0:ru (.mk 11 [u,W]) none M=false:=(by rw[H];cases pre M i<;>simp only[yR,yQ,hxf,afc]);rw[h0];clear H h0;obtain⟨x1,x2,x3,x4,x5,x6,x7⟩:=x;have As:=fG D;exact dq;rw[P]at hq;obtain⟨x2,x3,x4,x6,x7,O,xv,rfl,hxk,hxv⟩:=acC P;by_cases i0:i=0
    ·subst i0;have hinv':ru (.mk 11 [u,W]) none M=ru (.mk 11 [u,W]) (some (.mk 11 x2 x3 x4 [O,xv] x6 x7)) (M.drop 1):=by rw[H];simp only[pre,if_true,yQ,P,afS]
     repeat' (first|refine sz ?_|refine zc ?_ ?_|(intro h;first|(cases h;done)|rw[h]|skip)|refine uI Z (0) Z (fG D) Z ?_|refine uC Z hq ?_)
     refine AK.again (ih 1 ⟨hlt,?_,?_⟩ ai) ce ⟨Z,Z,trivial⟩ trivial Z Z Z;rw[hinv',A];intro p S;rw[A]at S;cases S;exact⟨hm,P⟩
    have ei:decide (((i:Nat):Int)>0)=true:=(by simp;omega);obtain⟨p,hpp⟩:∃p,M[i-1]?=some p:=⟨M[i-1]' ai,cc⟩;have hpi:pre M i=some p:=(by simp only[pre,if_neg i0];exact hpp);obtain⟨hpm,hph⟩:=hpre p hpi;have MQ:i64.wrap (((i:Nat):Int)-1)=((i-1:Nat):Int):=(by rw[iB ai ai];omega);have ajm:=fC hpm;obtain⟨p2,p3,p4,p6,p7,K,pv,rfl,hpk,hpv⟩:=acC hph;have hcq:=qe K O u N hpk hxk (by simp only[aH,aI]at ajm;omega);have I:ru (.mk 11 [u,W]) none M=(decide (dS K O<0)&&ru (.mk 11 [u,W]) (some (.mk 11 x2 x3 x4 [O,xv] x6 x7)) (M.drop (i+1))):=(by rw[H,hpi];rw[yR];rw[P,afS];rfl);have g1:[K,pv][0]?=some K:=rfl;have g2:[O,xv][0]?=some O:=rfl;by_cases hcm:dS K O<0
    ·have ec:decide (dS K O>=0)=false:=(by simp;omega);rw[show decide (dS K O<0)=true from by simpa using hcm,afS]at I;obtain⟨a1,a2,a3,a4,a5,a6,a7⟩:=O;obtain⟨b1,b2,b3,b4,b5,b6,b7⟩:=K
     repeat' (first|refine sz ?_|refine zc ?_ ?_|(intro h;first|(cases h;done)|rw[h]|skip)|refine uI Z (i) Z (fG D) Z ?_|refine uC Z hq ?_|refine ah.index hX Z Z Z Z Z Z Z Z Z Z (i-1) MQ (fG hpp) Z ?_|refine uI Z (0) Z (fG g1) Z ?_|refine uI Z (0) Z (fG g2) Z ?_|refine uC Z hcq ?_)
     refine AK.again (ih (i+1) ⟨hlt,?_,?_⟩ ai) ⟨.inl (dY ai),.inl Z,.inl Z,.inl Z,.inl Z,trivial⟩ ⟨Z,Z,trivial⟩ trivial Z Z Z;rw[I,A];intro p S;rw[A]at S;cases S;exact⟨hm,P⟩
    have ec:decide (dS K O>=0)=true:=(by simp;omega);rw[show decide (dS K O<0)=false from by simpa using hcm,afc]at I;rw[I];clear I H;obtain⟨a1,a2,a3,a4,a5,a6,a7⟩:=O;obtain⟨b1,b2,b3,b4,b5,b6,b7⟩:=K
    repeat' (first|refine sz ?_|refine zc ?_ ?_|(intro h;first|(cases h;done)|rw[h]|skip)|refine uI Z (i) Z (fG D) Z ?_|refine uC Z hq ?_|refine ah.index hX Z Z Z Z Z Z Z Z Z Z (i-1) MQ (fG hpp) Z ?_|refine uI Z (0) Z (fG g1) Z ?_|refine uI Z (0) Z (fG g2) Z ?_|refine uC Z hcq ?_)
    all_goals rfl
   have hc:=tf he;have h0:ru (.mk 11 [u,W]) none M=true:=(by rw[H,he,aeT];exact Zz _ _);rw[h0];clear ih;exact dq
  by_cases c:k=14
  ·subst c;show aR _ _ _ _ (.bool (cV (aU (.mk 14 ts) 0) (V.getD 0 lJ)&&cV (aU (.mk 14 ts) 1) (V.getD 1 lJ)));obtain⟨u,W,rfl⟩:=DW (show ts.length=2 by(have:arity 14=2:=by decide);omega)
   obtain⟨w,w',rfl⟩:=DW (show V.length=2 by
    have h:decide (V.length=2/\a=0/\n=0/\s=[]/\M.length=0)=true:=Q
    simp only[agh]at h;exact h.1)
   show aR _ _ _ _ (.bool (cV u w&&cV W w'));have J:bf u<=8589934593:=(by have:=cI (l:=[u,W]) (x:=u) cc;omega);have B:bf W<=8589934593:=(by have:=cI (l:=[u,W]) (x:=W) cc;omega);have h1:=gn u w ai;have h2:=gn W w' ai;have g1:[u,W][0]?=some u:=rfl;have g2:[u,W][1]?=some W:=rfl;have E:[w,w'][0]?=some w:=rfl;have g4:[w,w'][1]?=some w':=rfl;generalize cV u w=b1 at h1;generalize cV W w'=b2 at h2;clear Q;obtain⟨u1,u2⟩:=u;obtain⟨u3,u4⟩:=W;obtain⟨w1,w2⟩:=w;obtain⟨w3,w4⟩:=w';refine qn func72 call72 λβ hf=>?_
   repeat' (first|refine sz ?_|refine zc ?_ ?_|(intro h;first|(cases h;done)|rw[h]|skip)|refine uC Z S ?_|refine uC Z h1 ?_|refine uC Z h2 ?_|refine uI Z (0) Z (gG g1) Z ?_|refine uI Z (1) Z (gG g2) Z ?_|refine uI Z (0) Z (gG E) Z ?_|refine uI Z (1) Z (gG g4) Z ?_)
   all_goals
    show(_:CV)=_;clear hf S Y h1 h2;simp_all
  by_cases c:k=15
  ·subst c;show aR _ _ _ _ (.bool (decide (1<=n/\n<=bJ/\0<=a/\a<12/\M.length=1)&&aL M (aU (.mk 15 ts) 0)));obtain⟨u,rfl⟩:=PO (show ts.length=1 by(have:arity 15=1:=by decide);omega);have h1:=kr n;rw[Cy]at h1;have h2:=ug a;by_cases C:M.length=1
   ·obtain⟨x,rfl⟩:=SL C;have N:iC u=false:=dO G cc;have J:bf u<=8589934593:=(by have:=cI (l:=[u]) (x:=u) cc;omega);have h3:=Y x cc u N J;have g1:[u][0]?=some u:=rfl;have E:[x][0]?=some x:=rfl;rw[show aL [x] (aU (.mk 15 [u]) 0)=bE x u from by unfold aL;unfold aL;simp[aU,aV]];generalize bE x u=b1 at h3;obtain⟨U,us⟩:=u;obtain⟨x1,x2,x3,x4,x5,x6,x7⟩:=x;refine qn func72 call72 λβ hf=>?_
    repeat' (first|refine sz ?_|refine zc ?_ ?_|(intro h;first|(cases h;done)|rw[h]|skip)|refine uC Z S ?_|refine uC Z h1 ?_|refine uC Z h2 ?_|refine uC Z h3 ?_|refine uI Z (0) Z (gG g1) Z ?_|refine uI Z (0) Z (fG E) Z ?_)
    all_goals
     show(_:CV)=_;clear hf S Y h1 h2 h3 Q
     (try simp_all [bJ,aB])<;>(try omega)
   have q:((((aa M).length:Nat):Int)==1)=false:=(by rw[aB];simp;omega);refine qn func72 call72 λβ hf=>?_
   repeat' (first|refine sz ?_|refine zc ?_ ?_|(intro h;first|(cases h;done)|rw[h]|skip)|refine uC Z S ?_|refine uC Z h1 ?_|refine uC Z h2 ?_)
   all_goals
    show(_:CV)=_;clear hf S Y h1 h2 Q;simp_all
  by_cases c:k=8
  ·subst c;show aR _ _ _ _ (.bool (decide (0<=n/\n<=bJ/\0<=a/\a<12/\M.length=1)&&br (V.getD 0 lJ)&&aL M (V.getD 0 lJ)))
   obtain⟨u,rfl⟩:=PO (show V.length=1 by
    have h:decide (V.length=1/\code.length=0/\s=[])=true:=Q
    simp only[agh]at h;exact h.1)
   have h1:=kr n;rw[Cy]at h1;have h2:=ug a;by_cases C:M.length=1
   ·obtain⟨x,rfl⟩:=SL C;have J:bf u<=8589934593:=(by have:=cI (l:=[u]) (x:=u) cc;omega);have hg:=lY u J;have g1:[u][0]?=some u:=rfl;have E:[x][0]?=some x:=rfl;rw[show aL [x] ([u].getD 0 lJ)=bE x u from by unfold aL;unfold aL;simp];rw[agG];by_cases hgd:br u=true
    ·have h3:=Y x cc u (nQ hgd) J;rw[hgd]at hg ⊢;generalize bE x u=b1 at h3;obtain⟨U,us⟩:=u;obtain⟨x1,x2,x3,x4,x5,x6,x7⟩:=x;refine qn func72 call72 λβ hf=>?_
     repeat' (first|refine sz ?_|refine zc ?_ ?_|(intro h;first|(cases h;done)|rw[h]|skip)|refine uC Z S ?_|refine uC Z h1 ?_|refine uC Z h2 ?_|refine uC Z hg ?_|refine uC Z h3 ?_|refine uI Z (0) Z (gG g1) Z ?_|refine uI Z (0) Z (fG E) Z ?_)
     all_goals
      show(_:CV)=_;clear hf S Y h1 h2 h3 hg Q
      (try simp_all [bJ,aB])<;>(try omega)
    have hgf:br u=false:=(by simpa using hgd);rw[hgf]at hg ⊢;obtain⟨U,us⟩:=u;refine qn func72 call72 λβ hf=>?_
    repeat' (first|refine sz ?_|refine zc ?_ ?_|(intro h;first|(cases h;done)|rw[h]|skip)|refine uC Z S ?_|refine uC Z h1 ?_|refine uC Z h2 ?_|refine uC Z hg ?_|refine uI Z (0) Z (gG g1) Z ?_)
    all_goals
     show(_:CV)=_;clear hf S Y h1 h2 hg Q;simp_all [bJ]
   have q:((((aa M).length:Nat):Int)==1)=false:=(by rw[aB];simp;omega);refine qn func72 call72 λβ hf=>?_
   repeat' (first|refine sz ?_|refine zc ?_ ?_|(intro h;first|(cases h;done)|rw[h]|skip)|refine uC Z S ?_|refine uC Z h1 ?_|refine uC Z h2 ?_)
   all_goals
    show(_:CV)=_;clear hf S Y h1 h2 Q;simp_all
  exfalso;have:=PR Qb;omega
termination_by v=>SizeOf.sizeOf v
decreasing_by
 have:=aeQ D;simp at this ⊢;omega
end Go.Proofs
namespace Go.Proofs
open Go.cw
attribute [local irreducible] AK ah aR bM
def nK(p:Int):af 101 [.int .i64 p] (.bool (tL p)):=by
 refine qn func101 call101 λβ hf=>?_
 repeat' (first|refine sz ?_|refine zc ?_ ?_|(intro h;first|(cases h;done)|rw[h]|skip))
 all_goals
  show(_:CV)=_;clear hf;simp only[ahE,ahw,agh,agY]at *;congr 1;unfold tL
  first
  |(symm;apply aaX;omega)
  |(symm;apply aaY;omega)
  |(apply decide_eq_decide.2;omega)
def nL{Y n p:Int}{s:L UInt8}{M:L Nd}{d e:Int}(h:gS Y n p s M.length d=e)(O:e≠0):eW (.mk Y n p s M) d=e:=by simp only[eW,h,if_neg O]
def wD{Y n p:Int}{s:L UInt8}{M:L Nd}{d:Int}(h:gS Y n p s M.length d=0):eW (.mk Y n p s M) d=dx M (d+1):=by simp only[eW,h,if_true]
def wE(d:Int):dx [] d=0:=rfl
def tO(x:Nd)(l:L Nd)(d:Int):dx (x::l) d=if eW x d=0 then dx l d else eW x d:=rfl
attribute [local irreducible] eW dx
def Ev:∀(t:Nd)(d:Int),bD t<=8589934593->0<=d->d<=1099511627776-bD t->af 77 [aM t,.int .i64 d] (.int .i64 (eW t d))
 |.mk kind n p s args=>by
  intro d ht Qe hd
  simp only[bD]at ht hd
  have Kz:=gu args
  have hin:∀x∈args,af 77 [aM x,.int .i64 (i64.wrap (d+1))] (.int .i64 (eW x (d+1))):=by
   intro x hx
   have:=eO hx
   rw[iB ai ai]
   exact Ev x (d+1) ai ai ai
  by_cases c1:d>24
  ·have e1:decide (d>24)=true:=aaX c1
   rw[nL (e:=4) (by simp only[gS,if_pos c1]) ai]
   refine qn func77 call77 λβ hf=>?_
   repeat' (first|refine sz ?_|refine zc ?_ ?_|(intro h;first|(cases h;done)|rw[h]|skip))
   all_goals rfl
  have e1:decide (d>24)=false:=aaY c1
  by_cases c2:kind<0
  ·have e2:decide (kind<0)=true:=aaX c2
   rw[nL (e:=3) (by simp only[gS,if_neg c1,c2,true_or,if_true]) ai]
   refine qn func77 call77 λβ hf=>?_
   exact dq
  have e2:decide (kind<0)=false:=aaY c2
  by_cases c3:kind>3
  ·have e3:decide (kind>3)=true:=aaX c3
   rw[nL (e:=3) (by simp only[gS,if_neg c1,c3,true_or,or_true,if_true]) ai]
   refine qn func77 call77 λβ hf=>?_
   exact dq
  have e3:decide (kind>3)=false:=aaY c3
  have h4:kind=0\/kind=1\/kind=2\/kind=3:=by omega
  rcases h4 with rfl|rfl|rfl|rfl
  ·skip
   refine qn func77 call77 λβ hf=>?_
   repeat' (first|refine sz ?_|refine zc ?_ ?_|(intro h;first|(cases h;done)|rw[h]|skip)|refine uC Z (nK p) ?_)
   all_goals first
     |((show(_:CV)=_);clear hf hin;(try simp only[aZ]at *);congr 1;symm;refine nL ?_ ai;unfold gS bJ;simp_all<;>(repeat' split)<;>omega)
     |skip
   all_goals
    have hw:gS (0) n p s args.length d=0:=by
     clear hf hin
     try simp only[aZ]at *
     unfold gS bJ
     simp_all<;>(repeat' split)<;>omega
    have hT:=wD hw
    clear hw
    refine AK.dN (α:=Nat) (λi=>i<=args.length/\dx args (d+1)=dx (args.drop i) (d+1)) (λi=>args.length-i)
     (λi=>[(88,.c (.int .i64 i)),(87,.c (.int .i64 (aD args).length)),(86,.c (.sl 5 (aD args))),(1,.c (.int .i64 d))]) (λ_=>[]) (λ_=>[]) [] 0
     ⟨ai,Z⟩ ce trivial trivial Z Z Z ?_
    rintro i ⟨hi,hinv⟩ ih
    rcases ie args i hi with ⟨x,hx,hm⟩|he
    ·have hc:=mT hx
     have hq:=hin x hm
     rw[dK hx,tO]at hinv
     obtain⟨x1,x2,x3,x4,x5⟩:=x
     by_cases h0:eW (.mk x1 x2 x3 x4 x5) (d+1)=0
     ·rw[if_pos h0]at hinv
      rw[h0]at hq
      repeat' (first|refine sz ?_|refine zc ?_ ?_|(intro h;first|(cases h;done)|rw[h]|skip)|refine uI Z (i) Z (eK hx) Z ?_|refine uC Z hq ?_)
      exact aer
     ·rw[if_neg h0]at hinv
      have hne:(eW (.mk x1 x2 x3 x4 x5) (d+1) != 0)=true:=by simpa using h0
      repeat' (first|refine sz ?_|refine zc ?_ ?_|(intro h;first|(cases h;done)|rw[h]|skip)|refine uI Z (i) Z (eK hx) Z ?_|refine uC Z hq ?_)
      show(_:CV)=_
      rw[hT,hinv]
    ·have hc:=jZ he
     have h0:dx args (d+1)=0:=by rw[hinv,he,aeT,wE]
     clear ih
     repeat' (first|refine sz ?_|refine zc ?_ ?_|(intro h;first|(cases h;done)|rw[h]|skip))
     show(_:CV)=_
     rw[hT,h0]
  ·skip
   refine qn func77 call77 λβ hf=>?_
   repeat' (first|refine sz ?_|refine zc ?_ ?_|(intro h;first|(cases h;done)|rw[h]|skip)|refine uC Z (nK p) ?_)
   all_goals first
     |((show(_:CV)=_);clear hf hin;(try simp only[aZ]at *);congr 1;symm;refine nL ?_ ai;unfold gS bJ;simp_all<;>(repeat' split)<;>omega)
     |skip
   all_goals
    have hw:gS (1) n p s args.length d=0:=by
     clear hf hin
     try simp only[aZ]at *
     unfold gS bJ
     simp_all<;>(repeat' split)<;>omega
    have hT:=wD hw
    clear hw
    refine AK.dN (α:=Nat) (λi=>i<=args.length/\dx args (d+1)=dx (args.drop i) (d+1)) (λi=>args.length-i)
     (λi=>[(88,.c (.int .i64 i)),(87,.c (.int .i64 (aD args).length)),(86,.c (.sl 5 (aD args))),(1,.c (.int .i64 d))]) (λ_=>[]) (λ_=>[]) [] 0
     ⟨ai,Z⟩ ce trivial trivial Z Z Z ?_
    rintro i ⟨hi,hinv⟩ ih
    rcases ie args i hi with ⟨x,hx,hm⟩|he
    ·have hc:=mT hx
     have hq:=hin x hm
     rw[dK hx,tO]at hinv
     obtain⟨x1,x2,x3,x4,x5⟩:=x
     by_cases h0:eW (.mk x1 x2 x3 x4 x5) (d+1)=0
     ·rw[if_pos h0]at hinv
      rw[h0]at hq
      repeat' (first|refine sz ?_|refine zc ?_ ?_|(intro h;first|(cases h;done)|rw[h]|skip)|refine uI Z (i) Z (eK hx) Z ?_|refine uC Z hq ?_)
      exact aer
     ·rw[if_neg h0]at hinv
      have hne:(eW (.mk x1 x2 x3 x4 x5) (d+1) != 0)=true:=by simpa using h0
      repeat' (first|refine sz ?_|refine zc ?_ ?_|(intro h;first|(cases h;done)|rw[h]|skip)|refine uI Z (i) Z (eK hx) Z ?_|refine uC Z hq ?_)
      show(_:CV)=_
      rw[hT,hinv]
    ·have hc:=jZ he
     have h0:dx args (d+1)=0:=by rw[hinv,he,aeT,wE]
     clear ih
     repeat' (first|refine sz ?_|refine zc ?_ ?_|(intro h;first|(cases h;done)|rw[h]|skip))
     show(_:CV)=_
     rw[hT,h0]
  ·skip
   refine qn func77 call77 λβ hf=>?_
   repeat' (first|refine sz ?_|refine zc ?_ ?_|(intro h;first|(cases h;done)|rw[h]|skip)|refine uC Z (nK p) ?_)
   all_goals first
     |((show(_:CV)=_);clear hf hin;(try simp only[aZ]at *);congr 1;symm;refine nL ?_ ai;unfold gS bJ;simp_all<;>(repeat' split)<;>omega)
     |skip
   all_goals
    have hw:gS (2) n p s args.length d=0:=by
     clear hf hin
     try simp only[aZ]at *
     unfold gS bJ
     simp_all<;>(repeat' split)<;>omega
    have hT:=wD hw
    clear hw
    refine AK.dN (α:=Nat) (λi=>i<=args.length/\dx args (d+1)=dx (args.drop i) (d+1)) (λi=>args.length-i)
     (λi=>[(88,.c (.int .i64 i)),(87,.c (.int .i64 (aD args).length)),(86,.c (.sl 5 (aD args))),(1,.c (.int .i64 d))]) (λ_=>[]) (λ_=>[]) [] 0
     ⟨ai,Z⟩ ce trivial trivial Z Z Z ?_
    rintro i ⟨hi,hinv⟩ ih
    rcases ie args i hi with ⟨x,hx,hm⟩|he
    ·have hc:=mT hx
     have hq:=hin x hm
     rw[dK hx,tO]at hinv
     obtain⟨x1,x2,x3,x4,x5⟩:=x
     by_cases h0:eW (.mk x1 x2 x3 x4 x5) (d+1)=0
     ·rw[if_pos h0]at hinv
      rw[h0]at hq
      repeat' (first|refine sz ?_|refine zc ?_ ?_|(intro h;first|(cases h;done)|rw[h]|skip)|refine uI Z (i) Z (eK hx) Z ?_|refine uC Z hq ?_)
      exact aer
     ·rw[if_neg h0]at hinv
      have hne:(eW (.mk x1 x2 x3 x4 x5) (d+1) != 0)=true:=by simpa using h0
      repeat' (first|refine sz ?_|refine zc ?_ ?_|(intro h;first|(cases h;done)|rw[h]|skip)|refine uI Z (i) Z (eK hx) Z ?_|refine uC Z hq ?_)
      show(_:CV)=_
      rw[hT,hinv]
    ·have hc:=jZ he
     have h0:dx args (d+1)=0:=by rw[hinv,he,aeT,wE]
     clear ih
     repeat' (first|refine sz ?_|refine zc ?_ ?_|(intro h;first|(cases h;done)|rw[h]|skip))
     show(_:CV)=_
     rw[hT,h0]
  ·skip
   refine qn func77 call77 λβ hf=>?_
   repeat' (first|refine sz ?_|refine zc ?_ ?_|(intro h;first|(cases h;done)|rw[h]|skip)|refine uC Z (nK p) ?_)
   all_goals first
     |((show(_:CV)=_);clear hf hin;(try simp only[aZ]at *);congr 1;symm;refine nL ?_ ai;unfold gS bJ;simp_all<;>(repeat' split)<;>omega)
     |skip
   all_goals
    have hw:gS (3) n p s args.length d=0:=by
     clear hf hin
     try simp only[aZ]at *
     unfold gS bJ
     simp_all<;>(repeat' split)<;>omega
    have hT:=wD hw
    clear hw
    refine AK.dN (α:=Nat) (λi=>i<=args.length/\dx args (d+1)=dx (args.drop i) (d+1)) (λi=>args.length-i)
     (λi=>[(88,.c (.int .i64 i)),(87,.c (.int .i64 (aD args).length)),(86,.c (.sl 5 (aD args))),(1,.c (.int .i64 d))]) (λ_=>[]) (λ_=>[]) [] 0
     ⟨ai,Z⟩ ce trivial trivial Z Z Z ?_
    rintro i ⟨hi,hinv⟩ ih
    rcases ie args i hi with ⟨x,hx,hm⟩|he
    ·have hc:=mT hx
     have hq:=hin x hm
     rw[dK hx,tO]at hinv
     obtain⟨x1,x2,x3,x4,x5⟩:=x
     by_cases h0:eW (.mk x1 x2 x3 x4 x5) (d+1)=0
     ·rw[if_pos h0]at hinv
      rw[h0]at hq
      repeat' (first|refine sz ?_|refine zc ?_ ?_|(intro h;first|(cases h;done)|rw[h]|skip)|refine uI Z (i) Z (eK hx) Z ?_|refine uC Z hq ?_)
      exact aer
     ·rw[if_neg h0]at hinv
      have hne:(eW (.mk x1 x2 x3 x4 x5) (d+1) != 0)=true:=by simpa using h0
      repeat' (first|refine sz ?_|refine zc ?_ ?_|(intro h;first|(cases h;done)|rw[h]|skip)|refine uI Z (i) Z (eK hx) Z ?_|refine uC Z hq ?_)
      show(_:CV)=_
      rw[hT,hinv]
    ·have hc:=jZ he
     have h0:dx args (d+1)=0:=by rw[hinv,he,aeT,wE]
     clear ih
     repeat' (first|refine sz ?_|refine zc ?_ ?_|(intro h;first|(cases h;done)|rw[h]|skip))
     show(_:CV)=_
     rw[hT,h0]
termination_by t=>SizeOf.sizeOf t
decreasing_by
 have:=aeQ hx
 simp at this ⊢;omega
end Go.Proofs
namespace Go.Proofs
open Go.cw
def abT(Y n p:Int)(s:L UInt8)(M:L Nd):many (.mk Y n p s M)=cP M+1:=rfl
def V3:cP []=0:=rfl
def SN(x:Nd)(l:L Nd):cP (x::l)=many x+cP l:=rfl
mutual
def V4:∀t:Nd,many t<=bD t
 |.mk Y n p s M=>by have:=Bh M;simp only[many,bD];omega
def Bh:∀l:L Nd,cP l<=aO l
 |[]=>aaV _
 |t::l=>by have:=V4 t;have:=Bh l;simp only[cP,aO];omega
end
def agH{a b:Nat}(h:a+b<1099511627776):some (AV.c (CV.int .i64 (i64.wrap ((a:Int)+(b:Int)))))=some (AV.c (CV.int .i64 ((a+b:Nat):Int))):=by rw[iB ai ai];rfl
attribute [local irreducible] AK ah aR bM many cP eW dx
def Ig:∀(t:Nd),bD t<=8589934593->af 78 [aM t] (.int .i64 (many t))
 |.mk Y n p s M,C=>by
  have W:=Bh M;simp only[bD]at C;have Q:=gu M;have T:∀x∈M,af 78 [aM x] (.int .i64 (many x)):=λx D=>Ig x aaM;rw[abT];refine qn func78 call78 λβ hf=>?_;refine dn ?_;refine AK.dN (α:=Nat×Nat) (λz=>z.1<=M.length/\cP M+1=z.2+cP (M.drop z.1)) (λz=>M.length-z.1)
   (λz=>[(9,.c (.int .i64 z.1)),(8,.c (.int .i64 (aD M).length)),(7,.c (.sl 5 (aD M))),(3,.c (.int .i64 z.2))]) (λ_=>[]) (λ_=>[]) [] (0,1)
   ⟨ai,by rw[ahg];omega⟩ ce trivial trivial Z Z Z ?_
  rintro⟨i,m⟩ ⟨U,H⟩ ih;simp only at U H;rcases ie M i U with ⟨x,D,V⟩|O
  ·have I:=mT D;have hq:=T x V;rw[dK D,SN]at H;have h2:=bt D;generalize many x=q at hq H;obtain⟨J,P,N,K,G⟩:=x
   repeat' (first|refine qz ?_|refine zc ?_ ?_|(intro h;first|(cases h;done)|rw[h]|skip)|refine uI Z (i) Z (eK D) Z ?_|refine uC Z hq ?_)
   refine AK.again (ih (i+1,m+q) ⟨h2,by show cP M+1=m+q+cP (M.drop (i+1));omega⟩ fo) ⟨.inl (dY ai),.inl Z,.inl Z,.inl (agH (a:=m) (b:=q) ai),trivial⟩ trivial trivial Z Z Z
  have I:=jZ O;have S:cP M+1=m:=by rw[H,O,aeT,V3,agb]
  clear ih
  repeat' (first|refine qz ?_|refine zc ?_ ?_|(intro h;first|(cases h;done)|rw[h]|skip))
  show(_:CV)=_;rw[S]
termination_by t=>SizeOf.sizeOf t
decreasing_by
 have:=aeQ D;simp at this ⊢;omega
def rV(n:Nd)(B:bD n<=8589934593):af 57 [aM n] (.int .i64 (dZ n)):=by
 have h1:=Ev n 1 B ai ai;have h2:=Ig n B;unfold dZ;generalize eW n 1=e at h1;generalize many n=m at h2;obtain⟨W,a2,A,P,V⟩:=n;by_cases u:e=0;subst u;by_cases K:300<m;have N:decide ((m:Int)>300)=true:=aaX ai;simp only[K,if_true];exact qdq func57 call57;have N:decide ((m:Int)>300)=false:=aaY ai;simp only[K,agL,if_true];exact qdq func57 call57;have E:(e != 0)=true:=by simpa using u
 simp only[u,agL];exact qdq func57 call57
end Go.Proofs
namespace Go.Proofs
open Go.cw
attribute [local irreducible] AK ah aR bM dS bE rY br gl dZ gX cV oA
def UJ(t:Ty)(v:Vl)(C:bf t<=8589934593)(N:aH v<=8589934593):af 52 [cU t,bA v] (.bool (oA t v)):=by
 obtain⟨T,ts⟩:=t;obtain⟨J,Q,O,D,Y,M,S⟩:=v;have h1:=lY (.mk T ts) C;cases G:br (.mk T ts)with
 |false =>
  rw[G]at h1;rw[show oA (.mk T ts) (.mk J Q O D Y M S)=false from by unfold oA;rw[G,afc]];exact qdq func52 call52
 |true =>
  have h2:=CW (.mk J Q O D Y M S) (.mk T ts) (nQ G) N C;rw[G]at h1;rw[show oA (.mk T ts) (.mk J Q O D Y M S)=bE (.mk J Q O D Y M S) (.mk T ts)from by unfold oA;rw[G,afS]];generalize bE (.mk J Q O D Y M S) (.mk T ts)=b at h2;exact qdq func52 call52
end Go.Proofs
