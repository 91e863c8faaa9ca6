/- A part of the proof. -/
import Derived.Test.YtpnpbmbdkinajaaGreatDoorKind2G
import Derived.Test.YtpnpbmbdkinajaaGreatDoorVRefG
set_option linter.all false
set_option maxHeartbeats 0
set_option maxRecDepth 100000
open Go.IntKind Go.Proofs.Tryz
namespace Go.Proofs
open Go.cE
attribute [local irreducible] AK ag aZ bS
def iD(r:CR):CV:=if r.2=0 then .eK [.agg [.sl 2 (az r.1.1),.bool r.1.2],.int .i64 0]else .eK [.agg [.any,.any],.int .i64 r.2]
def yg(r:CR):CV := .eK [.agg [.sl 2 (az r.1.1),.bool r.1.2],.int .i64 r.2]
def Pd(s b):iD ((s,b),0) = .eK [.agg [.sl 2 (az s),.bool b],.int .i64 0]:=rfl
def fN(s):iD (fO s) = .eK [.agg [.sl 2 (az s),.bool false],.int .i64 0]:=rfl
def dU{e}(h:e≠0):iD (br e) = .eK [.agg [.any,.any],.int .i64 e]:=by unfold iD br;rw[if_neg h]
def kS(e):yg (br e) = .eK [.agg [.sl 2 [],.bool false],.int .i64 e]:=rfl
def akh{r}:Wk (yg r) (iD r):=by unfold yg iD;by_cases h:r.2=0;rw[if_pos h,h];exact Wk.refl _;rw[if_neg h];exact DT rfl rfl
def yL:∀n l,(az l).drop n=az (l.drop n)
 |0,l=>rfl
 |n+1,[]=>rfl
 |n+1,x::l=>by simp only[az,aje,yL n l]
def dN T(l):af 42 [.int .i64 T,.sl 2 (az l)] (ct (.mk T l)):=by exact qdw func42 call42
def cY(T):af 42 [.int .i64 T,.sl 0 []] (ct (.mk T [])) :=
 aZ.wk C1 (Wk.refl _) (dN T [])
def fX(l)(E:l.length<=1099511627776):iJ 56 [.v (.c (.sl 2 (az l)))] [.own 2 (az l)] []:=by
 cases l with
 |nil =>
  refine en func56 call56 [(0,.c (.sl 2 []))] [] [] [] λY hf=>?_
  repeat' (first|refine ju ?_|refine ze ?_ ?_|(intro h;first|(cases h;done)|rw[h]|skip)|refine AK.sY Z ?_ ?_|(refine uA Z ?_ ?_<;>(try (show(_:Nat)*_<=_;dsimp only))))
  all_goals first|exact Z|(show _<=_;decide)
 |cons x l =>
  have V:=aY l;simp only[aat]at E;refine en func56 call56 [(0,.c (.sl 2 (ct x::az l)))] [] [] [] λY hf=>?_
  repeat' (first|refine ju ?_|refine ze ?_ ?_|(intro h;first|(cases h;done)|rw[h]|skip)|refine AK.sY Z ?_ ?_|(refine uA Z ?_ ?_<;>(try (show(_:Nat)*_<=_;dsimp only))))
  all_goals first|exact Z|(show _<=_;simp only[aat,aav];omega)
def qa(s l)(Y:s.length<=20000000000:=by first|omega|(simp only[aat,aav]at *;omega))(E:l.length<=20000000000:=by simp):af 103 [.sl 2 (az s),.sl 2 (az l)] (iD (fO (l++s))):=by rw[fN,lZ];have V:=fX l ai;have U:=aY l;have B:=aY s;exact qdw func103 call103
def Fh(s)(Y:s.length<=20000000000:=by first|omega|(simp only[aat,aav]at *;omega)):af 103 [.sl 2 (az s),.sl 0 []] (iD (fO s)) :=
 aZ.wk C1 (Wk.refl _) (qa s [] Y cS)
def yM(a b)(Y:um a)(E:a.length<=20000000000):af 43 [.sl 2 (az a),.sl 2 (az b)] (.bool (gS a b)):=by have V:=sV a b cx 26 [] (λx O y _=>gC x y (by have:=(Y x O).2;omega)) ai;rw[Cx]at V;exact qdw func43 call43
def kf(a b)(V:um a.1.1)(E:a.1.1.length<=20000000000):af 126
  [.agg [.sl 2 (az a.1.1),.bool a.1.2],.int .i64 a.2,.agg [.sl 2 (az b.1.1),.bool b.1.2],.int .i64 b.2] (yg (cJ a b)):=by
 have U:=yM a.1.1 b.1.1 V E;obtain⟨⟨s,p⟩,e⟩:=a;obtain⟨⟨t,q⟩,f⟩:=b;simp only at U V E ⊢;unfold cJ;dsimp only;by_cases W:e≠0
 ·rw[if_pos W,kS];have A:(e != 0):=by simpa using W
  clear U;exact qdw func126 call126
 rw[if_neg W];obtain rfl:e=0:=by simpa using W
 by_cases Y:f≠0
 ·rw[if_pos Y,kS];have A:(f != 0):=by simpa using Y
  clear U;exact qdw func126 call126
 rw[if_neg Y];obtain rfl:f=0:=by simpa using Y
 cases p with
 |true =>
  rw[if_pos rfl];clear U;exact qdw func126 call126
 |false =>
 rw[if_neg bn];cases q with
 |true =>
  rw[if_pos (.inl Z)];clear U;exact qdw func126 call126
 |false =>
 cases I:gS s t with
 |true =>
  rw[if_pos (.inr Z)];rw[I]at U;exact qdw func126 call126
 |false =>
  rw[if_neg cS,kS];rw[I]at U;exact qdw func126 call126
def SE:Γ->L Int->Bool
 |_,[]=>true
 |[],_::_=>false
 |t::s,k::l=>(decide (k=0)||decide (cL t=k))&&SE s l
def Vo T(Y s:Γ)k(l:L Int):SE (.mk T Y::s) (k::l)=((decide (k=0)||decide (T=k))&&SE s l):=rfl
def Vp(k)(l:L Int):SE [] (k::l)=false:=rfl
def BA(l:Ψ)(n)(h:n<(l.length:Int)):decide ((l.length:Nat)>n):=ace h
def KN:∀s l,s.length<l.length->SE s l=false
 |_,[],h=>by simp at h
 |[],_::_,_=>rfl
 |t::s,k::l,h=>by simp only[SE,KN s l nu,Bool.and_false]
def afa{s:Γ}{l:L Int}{t k i}(Y:s[i]?=some t)(V:l[i]?=some k):SE (s.drop i) (l.drop i)=((decide (k=0)||decide (cL t=k))&&SE (s.drop (i+1)) (l.drop (i+1))):=by rw[cT Y,cT V];rfl
def Cy(s):SE s []:=by cases s<;>rfl
def Cz(s l)(P:s.length<=10000000000:=by first|omega|(simp only[aat,aav]at *;omega))(E:l.length<=10000000000:=by decide):af 125 [.sl 2 (az s),.sl 1 (ez l)] (.bool (SE s l)):=by
 have U:=aY s;have B:(ez l).length=l.length:=by simp[ez]
 by_cases D:s.length<l.length;rw[KN s l D];have A:decide ((((az s).length:Nat):Int)<(((ez l).length:Nat):Int)):=ace (by rw[U,B];omega);exact qdw func125 call125;have A:decide ((((az s).length:Nat):Int)<(((ez l).length:Nat):Int))=false:=acf (by rw[U,B];omega);refine qn func125 call125 λβ hf=>?_
 repeat' (first|refine ju ?_|refine zc ?_ ?_|(intro h;first|(cases h;done)|rw[h]|skip))
 refine AK.dg (α:=Nat) (λi=>i<=l.length/\SE s l=SE (s.drop i) (l.drop i)) (λi=>l.length-i)
  (λi=>[(14,Υ i),(13,Υ (ez l).length),(12,.c (.sl 1 (ez l))),(0,.c (.sl 2 (az s)))]) (λ_=>[]) (λ_=>[]) [] 0
  ⟨ai,Z⟩ ce trivial trivial Z Z Z ?_
 rintro i ⟨H,W⟩ ih;rcases fU l i H with ⟨k,I,O⟩|S
 ·have D:=ach I;have F:=bp I;obtain⟨t,C⟩:∃t,s[i]?=some t:=⟨s[i]' ai,cS⟩;rw[afa C I]at W;obtain⟨T,z⟩:=t;by_cases V:k=0
  ·subst V;rw[ace Z,Bool.true_or,aiM]at W
   repeat' (first|refine ju ?_|refine zc ?_ ?_|(intro h;first|(cases h;done)|rw[h]|skip)|refine uI Z (i) Z (ints_at I) Z ?_|refine uI Z (i) Z (ij C) Z ?_)
   refine AK.again (ih (i+1) ⟨F,W⟩ ai) ⟨.inl (dz ai),.inl Z,.inl Z,.inl Z,trivial⟩ trivial trivial Z Z Z
  have N:(k != 0):=by simpa using V
  by_cases Y:T=k
  ·have K:(T != k)=false:=(by simpa using Y);rw[ace (show cL (.mk T z)=k from Y),Bool.or_true,aiM]at W
   repeat' (first|refine ju ?_|refine zc ?_ ?_|(intro h;first|(cases h;done)|rw[h]|skip)|refine uI Z (i) Z (ints_at I) Z ?_|refine uI Z (i) Z (ij C) Z ?_)
   refine AK.again (ih (i+1) ⟨F,W⟩ ai) ⟨.inl (dz ai),.inl Z,.inl Z,.inl Z,trivial⟩ trivial trivial Z Z Z
  have K:(T != k):=by simpa using Y
  rw[acf (show ¬cL (.mk T z)=k from Y),acf V,Bool.or_false,ahT]at W;rw[W];clear ih;have M:=ints_at I;have J:=ij C;exact dw
 have D:=Yv S;have Q:SE s l:=by rw[W,S,aho,Cy]
 rw[Q];clear ih;exact dw
end Go.Proofs
