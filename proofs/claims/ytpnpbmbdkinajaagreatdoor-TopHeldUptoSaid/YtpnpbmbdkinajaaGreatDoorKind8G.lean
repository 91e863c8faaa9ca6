/- A part of the proof. -/
import Derived.Test.YtpnpbmbdkinajaaGreatDoorKind2G
import Derived.Test.YtpnpbmbdkinajaaGreatDoorVRefG
set_option linter.all false
set_option maxHeartbeats 0
set_option maxRecDepth 100000
open Go.IntKind Go.Proofs.Tryz
namespace Go.Proofs
open Go.cE
mutual
def yJ:∀(n:Nd)(d left:Int)(t:Ty)(m:Int),gQ n d left=(some t,m)->bh t<=bE n
 |.mk T W p s Y,d,left,t,m,h=>by
  simp only[gQ]at h;split at h;simp at h;rcases I:eR Y (d+1) (left-1)with ⟨b,J⟩
  rw[I]at h;cases b with
  |none=>simp at h
  |some l =>
   simp at h;have:=Cv Y (d+1) (left-1) l J I;rw[<- h.1];simp only[bh,bE];omega
def Cv:∀(l:Θ)(d left:Int)(r:Γ)(m:Int),eR l d left=(some r,m)->bf r<=aP l
 |[],d,left,r,m,h=>by simp[eR]at h;rw[h.1];simp[bf]
 |x::l,d,left,r,m,h=>by
  simp only[eR]at h;rcases I:gQ x d left with ⟨b,J⟩
  rw[I]at h;cases b with
  |none=>simp at h
  |some t =>
   simp only at h;rcases Y:eR l d J with ⟨u,V⟩
   rw[Y]at h;cases u with
   |none=>simp at h
   |some q =>
    simp at h;have U:=yJ x d left t J I;have T:=Cv l d J q V Y;rw[<- h.1];simp only[bf,aP];omega
end
attribute [local irreducible] AK ag aZ bS gA fy jG fZ gQ eR bA
def ke(n)(I:bE n<=8589934593):af 49 [aV n] (.eK [ct (aM n).1,.int .i64 (aM n).2]):=by
 have hq:=Ff n 1 300 I ai ai ai ai;rcases V:gQ n 1 300 with ⟨b,m⟩
 rw[V]at hq;have K:=yJ n 1 300;rw[V]at K;cases b with
 |none =>
  have Y:aM n=(.mk 0 [],1):=by simp only[aM,V]
  rw[Y];simp only[KK,Option.isSome_none]at hq;obtain⟨k,a,p,s,l⟩:=n;refine qn func49 call49 λβ hf=>?_
  repeat' (first|refine rG ?_|refine zc ?_ ?_|(intro h;first|(cases h;done)|rw[h]|skip)|refine oa ?_ (hq:=hq))
  rfl
 |some t =>
  have N:=mH t (aiq (K t m Z) I);have Y:aM n=if bA t then(t,0)else(.mk 0 [],1):=by simp only[aM,V]
  rw[Y];obtain⟨U,us⟩:=t;simp only[KK,Option.isSome_some]at hq;obtain⟨k,a,p,s,l⟩:=n;cases W:bA (.mk U us)
  all_goals
   rw[W]at N;refine qn func49 call49 λβ hf=>?_
   repeat' (first|refine rG ?_|refine zc ?_ ?_|(intro h;first|(cases h;done)|rw[h]|skip)|refine oa ?_ (hq:=hq)|refine uC Z N ?_)
   rfl
end Go.Proofs
namespace Go.Proofs
open Go.cE
attribute [local irreducible] AK ag aZ bS aM
def Mq(p):af 100 [.int .i64 p] (.str (iq p)):=by
 refine qn func100 call100 λY hf=>?_
 repeat' (first|refine ju ?_|refine zc ?_ ?_|(intro h;first|(cases h;done)|rw[h]|skip))
 all_goals
  clear hf;refine Wk.of_eq (ahm CV.str ?_);unfold iq;simp_all
def four(a:Int):a=3\/a=4\/a=5\/((a==3)=false/\(a==4)=false/\(a==5)=false):=by grind
def SG(p a b)(M:p=69\/p=70\/p=71\/p=72):af 127 [.int .i64 p,.int .i64 a,.int .i64 b] (.int .i64 (nU p a b)):=by
 rcases M with rfl|rfl|rfl|rfl<;>rcases four a with rfl|rfl|rfl|⟨T,Y,I⟩<;>rcases four b with rfl|rfl|rfl|⟨C,u,E⟩
 all_goals
  refine qn func127 call127 λV hf=>?_
  repeat' (first|refine ju ?_|refine zc ?_ ?_|(intro h;first|(cases h;done)|rw[h]|skip))
  all_goals
   clear hf;refine Wk.of_eq (ahm (CV.int .i64) ?_);unfold nU;simp_all
def J6(l)(p:Nd->Bool)(f)(C:Ψ)(M:∀x∈l,af f (aV x::C) (.bool (p x)))(T:l.length<=1099511627776) :
  af 94 [.sl 5 (aD l),.sX f C] (.int .i64 (idxOf p l)):=by
 refine qn func94 call94 λz hf=>?_;refine AK.SH hX mixed 300 Z ?_;refine AK.dg (α:=Nat) (λi=>i<=l.length/\∀(j:Nat) x,j<i->l[j]?=some x->p x=false) (λi=>l.length-i)
  (λi=>[(8,Υ i),(7,Υ (aD l).length),(0,.c (.sl 5 (aD l))),(1,.c (.sX f C))]) (λ_=>[]) (λ_=>[]) [] 0
  ⟨ai,by intro j x h;omega⟩ ce trivial trivial Z Z Z ?_
 rintro i ⟨H,W⟩ ih;rcases fU l i H with ⟨x,O,S⟩|Q
 ·have D:=mG O;have F:=M x S;have u:=bp O;cases U:p x with
  |true =>
   rw[U]at F;rw[yN p l i x O U W];obtain⟨P,E,N,q,K⟩:=x;clear ih;have I:=ff O;exact dw
  |false =>
   rw[U]at F
   have J:=ih (i+1) ⟨ai,λj y B Y=>by
    by_cases V:j=i;subst V;rw[O]at Y;simp at Y;subst Y;exact U
    exact W j y ai Y⟩ ai
   obtain⟨P,E,N,q,K⟩:=x
   repeat' (first|refine ju ?_|refine zc ?_ ?_|(intro h;first|(cases h;done)|rw[h]|skip)|refine uI Z (i) Z (ff O) Z ?_|refine uC Z F ?_)
   refine AK.again J ⟨.inl ?_,.inl Z,.inl Z,.inl Z,trivial⟩ trivial trivial Z Z Z;rw[gW ai ai];rfl
 have D:=j9 Q
 have A:idxOf p l = -1:=BC p l (λj y G=>by
  have:=bp G
  exact W j y ai G)
 rw[A];clear ih;exact dw
def DU(l)(p:Nd->Bool)(f)(C:Ψ)(M:∀x∈l,af f (aV x::C) (.bool (p x)))(T:l.length<=1099511627776) :
  af 76 [.sl 5 (aD l),.sX f C] (.bool (l.any p)):=by
 refine qn func76 call76 λY hf=>?_
 repeat' (first|refine ju ?_|refine uC Z (J6 l p f C M T) ?_)
 all_goals exact Wk.of_eq (ahm CV.bool (DV p l))
def Hf:∀l,dH l=l.any Fi
 |[]=>rfl
 |x::l=>by simp only[dH,akx,Hf l]
def yO l(E:aP l<=1099511627776):af 58 [.sl 5 (aD l)] (.bool (dH l)):=by
 have A:∀x∈l,af 77 [aV x] (.bool (Fi x)):=by
  rintro⟨k,n,p,s,V⟩ hx;have K:=eS hx;simp only[bE]at K;have W:=yO V ai;unfold Fi;by_cases I:k=2;subst I;by_cases M:p=84;subst M;rw[ace ⟨Z,Z⟩];exact qdw func77 call77;rw[acf (λh=>M h.2)];have Y:(p==84)=false:=(by simpa using M);exact qdw func77 call77;rw[acf (λh=>I h.1)];have Y:(k==2)=false:=by simpa using I
  exact qdw func77 call77
 have T:=gB l;have U:=DU l Fi 77 [] A ai;rw[<- Hf]at U;exact qdw func58 call58
termination_by SizeOf.sizeOf l
decreasing_by
 have:=ahx hx;simp at this ⊢;omega
end Go.Proofs
namespace Go.Proofs
open Go.cE
mutual
def FV:∀(n:Nd)(d left:Int)(t:Ty)(m:Int),gQ n d left=(some t,m)->Xr t=n
 |.mk T W p s Y,d,left,t,m,h=>by
  simp only[gQ]at h;split at h;simp at h;rename_i D;simp only[not_or,ne_eq,ahI]at D;rcases I:eR Y (d+1) (left-1)with ⟨b,J⟩
  rw[I]at h;cases b with
  |none=>simp at h
  |some l =>
   simp at h;have:=Dl Y (d+1) (left-1) l J I;rw[<- h.1];simp only[Xr,this];rw[D.2.2.1,D.2.2.2.1,D.2.2.2.2.1]
def Dl:∀(l:Θ)(d left:Int)(r:Γ)(m:Int),eR l d left=(some r,m)->QU r=l
 |[],d,left,r,m,h=>by simp[eR]at h;rw[h.1];rfl
 |x::l,d,left,r,m,h=>by
  simp only[eR]at h;rcases I:gQ x d left with ⟨b,J⟩
  rw[I]at h;cases b with
  |none=>simp at h
  |some t =>
   simp only at h;rcases Y:eR l d J with ⟨u,V⟩
   rw[Y]at h;cases u with
   |none=>simp at h
   |some q =>
    simp at h;have U:=FV x d left t J I;have T:=Dl l d J q V Y;rw[<- h.1];simp only[QU,U,T]
end
def z8(n:Nd):(∃t,aM n=(t,0)/\bA t/\Xr t=n/\bh t<=bE n)\/aM n=(.mk 0 [],1):=by
 simp only[aM];rcases I:gQ n 1 300 with ⟨b,m⟩
 cases b with
 |none=>right;rfl
 |some t =>
  simp only;cases N:bA t;right;rfl;left;exact⟨t,Z,N,FV n 1 300 t m I,yJ n 1 300 t m I⟩
end Go.Proofs
