/- What kind.Good and kind.parse answer. -/
import Derived.Test.YtdnpapgijbhofaaGreatDoorKind6
import Derived.Test.YtdnpapgijbhofaaGreatDoorTPure
open Go.IntKind
open Go.Proofs.Tryz
set_option linter.defProp false
set_option maxHeartbeats 0
set_option linter.unusedVariables false
set_option linter.unusedSimpArgs false
set_option maxRecDepth 100000
namespace Go.Proofs
open Go.cw
def I7(Y T p:Int)(s:L UInt8)(M:L Nd)(d left:Int)(h:left-1<0\/d>24\/Y≠2\/T≠0\/s≠[]\/arity p≠M.length):gm (.mk Y T p s M) d left=(none,left-1):=by simp only[gm,if_pos h]
def Uh(Y T p:Int)(s:L UInt8)(M:L Nd)(d left:Int)(h:¬(left-1<0\/d>24\/Y≠2\/T≠0\/s≠[]\/arity p≠M.length)) :
  gm (.mk Y T p s M) d left=((eB M (d+1) (left-1)).1.map (.mk p),(eB M (d+1) (left-1)).2):=by
 simp only[gm,if_neg h];rcases eB M (d+1) (left-1)with ⟨b,m⟩
 cases b<;>rfl
def ML(d m:Int):eB [] d m=(some [],m):=rfl
def Kx(t:Nd)(l:L Nd)(d n:Int):eB (t::l) d n=match (gm t d n).1 with
  |some y=>((eB l d (gm t d n).2).1.map (y :: ·),(eB l d (gm t d n).2).2)
  |none=>(none,(gm t d n).2):=by
 simp only[eB];rcases gm t d n with ⟨b,m⟩
 cases b with
 |none=>rfl
 |some y =>
  simp only;rcases eB l d m with ⟨r,I⟩
  cases r<;>rfl
def eK{l:L Nd}{i:Nat}{x:Nd}(h:l[i]?=some x):(aD l)[i]?=some (aM x):=by rw[Fw,h];rfl
def mT{l:L Nd}{i:Nat}{x:Nd}(h:l[i]?=some x):decide (((i:Nat):Int)<(((aD l).length:Nat):Int))=true:=dec_lt (by have:=bt h;rw[aZ];omega)
def jZ{l:L Nd}{i:Nat}(h:i=l.length):decide (((i:Nat):Int)<(((aD l).length:Nat):Int))=false:=Ky (by rw[aZ];omega)
def lq:∀(a:L Ty)(b:L Ty),az (a++b)=az a++az b
 |[],b=>rfl
 |t::a,b=>by simp[az,lq a b]
def ng:∀(a:L Nd)(b:L Nd),aD (a++b)=aD a++aD b
 |[],b=>rfl
 |t::a,b=>by simp[aD,ng a b]
def kL{i:Nat}(h:i<1099511627776):AV.c (CV.int .i64 (i64.wrap ((i:Int)+1)))=AV.c (CV.int .i64 ((i+1:Nat):Int)):=by rw[iB ai ai];rfl
def I8:Option Ty->Ty
 |some t=>t
 |none => .mk 0 []
attribute [local irreducible] AK ah aR bM fM eL lX gl gm eB
def lY(t:Ty)(C:bf t<=8589934593):af 58 [cU t] (.bool (br t)):=by
 have hq:=rK t 1 0 C ai ai ai ai;obtain⟨T,M⟩:=t;refine qn func58 call58 λβ hf=>?_
 repeat' (first|refine qz ?_|refine nv ?_ (hq:=hq))
 rfl
def DH:∀(n:Nd)(d left:Int),bD n<=8589934593->0<=d->d<=1099511627776-bD n->0<=left->left<=300 ->
  hJ 142 [.v (.c (aM n)),.v (.c (.int .i64 d)),.box [.c (.int .i64 left)]] [.c (cU (I8 (gm n d left).1)),.c (.bool (gm n d left).1.isSome)] [(2,[.c (.int .i64 (gm n d left).2)])]
 |.mk Y S p s M=>by
  intro d left B Qe A u hn;simp only[bD]at B A;have Kz:=gu M;have T:∀x∈M,∀m:Int,0<=m->m<=300->hJ 142 [.v (.c (aM x)),.v (.c (.int .i64 (i64.wrap (d+1)))),.box [.c (.int .i64 m)]] [.c (cU (I8 (gm x (d+1) m).1)),.c (.bool (gm x (d+1) m).1.isSome)] [(2,[.c (.int .i64 (gm x (d+1) m).2)])]:=by intro x D m q h1;have:=eO D;rw[iB ai ai];exact DH x (d+1) m ai ai ai q h1
  have E:i64.wrap (left-1)=left-1:=iB ai ai;refine en func142 call142 [(0,.c (aM (.mk Y S p s M))),(1,.c (.int .i64 d)),(2,.ptr 1002000 0)] [(1002000,[.c (.int .i64 left)])] [] [1002000] λβ hf=>?_
  repeat' (first|refine qz ?_|refine ze ?_ ?_|(intro h;first|(cases h;done)|rw[h]|skip)|refine uC Z (xm p) ?_|(refine uA Z ?_ ?_<;>(try (show(_:Nat)*_<=_;dsimp only))))
  rotate_left 12
  ·refine AK.fY [(6,6),(8,8),(1002000,1002000)] [(8000,(0,none))] (env':=[(57,.c (.int .i64 (0:Nat))),(56,.c (.int .i64 (aD M).length)),(55,.c (.sl 5 (aD M))),(1,.c (.int .i64 d)),(2,.ptr 1002000 0),(6,.ptr 6 0),(8,.ptr 8 0)])
    (bs':=[(6,[.c (.int .i64 0),.own .exact 2 []]),(8,[.c (.int .i64 p),.own (.tok 8000 0) 2 []]),(1002000,[.c (.int .i64 (left-1))])]) (ts':=[(8000,0)]) (us':=[6,8,1002000,8000])
    ce 
    ⟨ce,ce,⟨_,_,Z,Z,⟨_,_,Z,.inl (aeM (λk=>AV.c (.int .i64 k)) E),Z⟩⟩,trivial⟩ Z ?_
   refine AK.dN (α:=Nat×L Ty×Int) (λz=>z.1<=M.length/\z.1=z.2.1.length/\eB M (d+1) (left-1)=((eB (M.drop z.1) (d+1) z.2.2).1.map (z.2.1 ++ ·),(eB (M.drop z.1) (d+1) z.2.2).2)/\0<=z.2.2/\z.2.2<=300) (λz=>M.length-z.1)
    (λz=>[(57,.c (.int .i64 z.1)),(56,.c (.int .i64 (aD M).length)),(55,.c (.sl 5 (aD M))),(1,.c (.int .i64 d)),(2,.ptr 1002000 0),(6,.ptr 6 0),(8,.ptr 8 0)])
    (λz=>[(6,[.c (.int .i64 0),.own .exact 2 []]),(8,[.c (.int .i64 p),.own (.tok 8000 0) 2 (az z.2.1)]),(1002000,[.c (.int .i64 z.2.2)])]) (λ_=>[(8000,0)]) [6,8,1002000,8000] (0,[],left-1)
    ⟨ai,Z,cc,?_,by show left-1<=300;omega⟩ ce ⟨Z,Z,Z,trivial⟩ ⟨Z,trivial⟩ Z Z Z ?_
   have:¬(left-1<0):=(by simp_all);show 0<=left-1;omega;rintro⟨i,acc,m⟩ ⟨N,J,H,W,G⟩ ih;simp only at N J H W G;have hk:¬(left-1<0\/d>24\/Y≠2\/S≠0\/s≠[]\/arity p≠M.length):=(by clear ih T hf;simp_all [aZ]);have Q:=Uh Y S p s M d left hk;rcases ie M i N with ⟨x,D,P⟩|C
   ·have hc:=mT D;have hq:=T x P m W G;have V:=I9 x (d+1) m W;rw[dK D,Kx]at H;rcases hr:gm x (d+1) m with ⟨b,I⟩
    rw[hr]at hq V H;obtain⟨xk,xn,xp,xs,xa⟩:=x;cases b with
    |none =>
     simp only[I8,Option.isSome_none]at hq H
     repeat' (first|refine qz ?_|refine ze ?_ ?_|(intro h;first|(cases h;done)|rw[h]|skip)|refine uI Z (i) Z (eK D) Z ?_|refine nv ?_ (hq:=hq)|(refine uA Z ?_ ?_<;>(try (show(_:Nat)*_<=_;dsimp only))))
     rw[Q,H];rfl;rw[Q,H]
    |some y =>
     obtain⟨U,us⟩:=y;simp only[I8,Option.isSome_some]at hq H
     repeat' (first|refine qz ?_|refine ze ?_ ?_|(intro h;first|(cases h;done)|rw[h]|skip)|refine uI Z (i) Z (eK D) Z ?_|refine nv ?_ (hq:=hq)|(refine uA Z ?_ ?_<;>(try (show(_:Nat)*_<=_;dsimp only))))
     have h1:=aQ acc;have h2:=bt D;simp only[aag,aay];omega;have O:az acc++[cU (.mk U us)]=az (acc++[Ty.mk U us]):=(lq acc [.mk U us]).symm;refine AK.fY [(6,6),(8,8),(1002000,1002000)] [(8000,(0,some 8000))] (env':=[(57,.c (.int .i64 ((i+1:Nat):Int))),(56,.c (.int .i64 (aD M).length)),(55,.c (.sl 5 (aD M))),(1,.c (.int .i64 d)),(2,.ptr 1002000 0),(6,.ptr 6 0),(8,.ptr 8 0)])
      (bs':=[(6,[.c (.int .i64 0),.own .exact 2 []]),(8,[.c (.int .i64 p),.own (.tok 8000 0) 2 (az (acc++[Ty.mk U us]))]),(1002000,[.c (.int .i64 I)])]) (ts':=[(8000,0)]) (us':=[6,8,1002000,8000])
      ⟨⟨_,Z,.inl (kL (i:=i) oy)⟩,⟨_,Z,.inl Z⟩,⟨_,Z,.inl Z⟩,⟨_,Z,.inl Z⟩,⟨_,Z,⟨_,Z,Z⟩⟩,⟨_,Z,⟨_,Z,Z⟩⟩,⟨_,Z,⟨_,Z,Z⟩⟩,trivial⟩
      ⟨ce,⟨_,_,Z,Z,⟨_,_,Z,.inl Z,⟨_,_,Z,⟨_,Z,.inr ⟨_,_,Z,Z,aeM (AV.own (.tok 8000 1) 2) O⟩⟩,Z⟩⟩⟩,ce,trivial⟩ Z ?_
     refine ih (i+1,acc++[Ty.mk U us],I) ⟨bt D,by simp[J],?_,?_,?_⟩ acd
     ·show eB M (d+1) (left-1)=_;rw[H];rcases eB (List.drop (i+1) M) (d+1) I with ⟨r,m2⟩
      cases r<;>simp
     exact V.2.2 cc;have:=V.1;show I<=300;simp only at this;omega
   have hc:=jZ C;have hG:eB M (d+1) (left-1)=(some acc,m):=(by rw[H,C,aeT,ML];simp);rw[hG]at Q;clear ih T
   repeat' (first|refine qz ?_|refine ze ?_ ?_|(intro h;first|(cases h;done)|rw[h]|skip)|(refine uA Z ?_ ?_<;>(try (show(_:Nat)*_<=_;dsimp only))))
   rw[Q];rfl;rw[Q]
  all_goals
   have K:left-1<0\/d>24\/Y≠2\/S≠0\/s≠[]\/arity p≠M.length:=by
    clear T hf
    first
    |(left;simp_all;done)
    |(right;left;simp_all;done)
    |(right;right;left;simp_all;done)
    |(right;right;right;left;simp_all;done)
    |(right;right;right;right;left;simp_all;done)
    |(right;right;right;right;right;simp_all [aZ];done)
   first
   |(show(_:L LV)=_;rw[I7 Y S p s M d left K];rfl)
   |(show(_:L (Nat×L LV))=_;rw[I7 Y S p s M d left K,E])
termination_by t=>SizeOf.sizeOf t
decreasing_by
 have:=aeQ D;simp at this ⊢;omega
end Go.Proofs
namespace Go.Proofs
open Go.cw
mutual
def xo:∀(n:Nd)(d left:Int)(t:Ty)(m:Int),gm n d left=(some t,m)->bf t<=bD n
 |.mk Y T p s M,d,left,t,m,h=>by
  simp only[gm]at h;split at h;simp at h;rcases A:eB M (d+1) (left-1)with ⟨b,I⟩
  rw[A]at h;cases b with
  |none=>simp at h
  |some l =>
   simp at h;have:=Bn M (d+1) (left-1) l I A;rw[<- h.1];simp only[bf,bD];omega
def Bn:∀(l:L Nd)(d left:Int)(r:L Ty)(m:Int),eB l d left=(some r,m)->bp r<=aO l
 |[],d,left,r,m,h=>by simp[eB]at h;rw[h.1];simp[bp]
 |x::l,d,left,r,m,h=>by
  simp only[eB]at h;rcases A:gm x d left with ⟨b,I⟩
  rw[A]at h;cases b with
  |none=>simp at h
  |some t =>
   simp only at h;rcases W:eB l d I with ⟨V,P⟩
   rw[W]at h;cases V with
   |none=>simp at h
   |some q =>
    simp at h;have h1:=xo x d left t I A;have h2:=Bn l d I q P W;rw[<- h.1];simp only[bp,aO];omega
end
attribute [local irreducible] AK ah aR bM fM eL lX gl gm eB br
def jE(n:Nd)(H:bD n<=8589934593):af 117 [aM n] (.eF [cU (aJ n).1,.int .i64 (aJ n).2]):=by
 have hq:=DH n 1 300 H ai ai ai ai;rcases B:gm n 1 300 with ⟨b,m⟩
 rw[B]at hq;have u:=xo n 1 300;rw[B]at u;cases b with
 |none =>
  have q:aJ n=(.mk 0 [],1):=by simp only[aJ,B]
  rw[q];simp only[I8,Option.isSome_none]at hq;obtain⟨k,a,p,s,l⟩:=n;refine qn func117 call117 λβ hf=>?_
  repeat' (first|refine qz ?_|refine zc ?_ ?_|(intro h;first|(cases h;done)|rw[h]|skip)|refine nv ?_ (hq:=hq))
  rfl
 |some t =>
  have G:=lY t (afC (u t m Z) H);have q:aJ n=if br t then(t,0)else(.mk 0 [],1):=by simp only[aJ,B]
  rw[q];obtain⟨U,us⟩:=t;simp only[I8,Option.isSome_some]at hq;obtain⟨k,a,p,s,l⟩:=n;cases Y:br (.mk U us)
  all_goals
   rw[Y]at G;refine qn func117 call117 λβ hf=>?_
   repeat' (first|refine qz ?_|refine zc ?_ ?_|(intro h;first|(cases h;done)|rw[h]|skip)|refine nv ?_ (hq:=hq)|refine uC Z G ?_)
   rfl
end Go.Proofs
namespace Go.Proofs
open Go.cw
attribute [local irreducible] AK ah aR bM
def sO{α:Type}(q:α->α->Bool):List α->List α->Bool
 |[],[]=>true
 |x::l,y::r=>q x y&&sO q l r
 |_,_=>false
def Bo{α:Type}(q:α->α->Bool):∀(l r:List α),l.length≠r.length->sO q l r=false
 |[],[],h=>by simp at h
 |[],_::_,_=>rfl
 |_::_,[],_=>rfl
 |x::l,y::r,h=>by simp[sO,Bo q l r oe]
def Bp:∀(l r:L Ty),sO cV l r=gP l r
 |[],[]=>rfl
 |[],_::_=>rfl
 |_::_,[]=>rfl
 |x::l,y::r=>by simp[sO,gP,Bp l r]
def Fy:∀(l r:L Nd),sO qA l r=lI l r
 |[],[]=>rfl
 |[],_::_=>rfl
 |_::_,[]=>rfl
 |x::l,y::r=>by simp[sO,lI,Fy l r]
def Fz{α:Type}(q:α->α->Bool){l r:List α}{i:Nat}(h:l.length=r.length)(U:i=l.length):sO q (l.drop i) (r.drop i)=true:=by subst U;rw[aeT,h,aeT];rfl
def rL(l r:L Ty)(q:Ty->Ty->Bool)(f:FuncId)(G:L CV)(B:∀x∈l,∀y∈r,af f (cU x::cU y::G) (.bool (q x y)))(S:l.length<=1099511627776) :
  af 71 [.sl 2 (az l),.sl 2 (az r),.sU f G] (.bool (sO q l r)):=by
 by_cases I:l.length=r.length
 ·have O:((((az l).length:Nat):Int) != (((az r).length:Nat):Int))=false:=by rw[aQ,aQ,I];simp
  refine qn func71 call71 λβ hf=>?_
  repeat' (first|refine qz ?_|refine zc ?_ ?_|(intro h;first|(cases h;done)|rw[h]|skip))
  refine AK.dN (α:=Nat) (λi=>i<=l.length/\sO q l r=sO q (l.drop i) (r.drop i)) (λi=>l.length-i)
   (λi=>[(17,.c (.int .i64 i)),(16,.c (.int .i64 (az l).length)),(15,.c (.sl 2 (az l))),(1,.c (.sl 2 (az r))),(2,.c (.sU f G))]) (λ_=>[]) (λ_=>[]) [] 0
   ⟨ai,Z⟩ ce trivial trivial Z Z Z ?_
  rintro i ⟨V,H⟩ ih;rcases ie l i V with ⟨x,D,Q⟩|W
  ·have P:=KA D;obtain⟨y,Y⟩:∃y,r[i]?=some y:=⟨r[i]' oy,cc⟩;have hq:=B x Q y (abz Y);rw[dK D,dK Y]at H;simp only[sO]at H;obtain⟨T,M⟩:=x;obtain⟨U,us⟩:=y
   repeat' (first|refine qz ?_|refine zc ?_ ?_|(intro h;first|(cases h;done)|rw[h]|skip)|refine uI Z (i) Z (gG D) Z ?_|refine uI Z (i) Z (gG Y) Z ?_|refine uC Z hq ?_)
   rw[H];simp_all;refine AK.again (ih (i+1) ⟨bt D,?_⟩ oy) ⟨.inl (dY oy),.inl Z,.inl Z,.inl Z,.inl Z,trivial⟩ trivial trivial Z Z Z;simp_all
  have P:=EX W
  repeat' (first|refine qz ?_|refine zc ?_ ?_|(intro h;first|(cases h;done)|rw[h]|skip))
  rw[H,Fz q I W]
 have O:((((az l).length:Nat):Int) != (((az r).length:Nat):Int))=true:=by rw[aQ,aQ];simp;omega
 rw[Bo q l r I];exact qdq func71 call71
def xq(l r:L Nd)(q:Nd->Nd->Bool)(f:FuncId)(G:L CV)(B:∀x∈l,∀y∈r,af f (aM x::aM y::G) (.bool (q x y)))(S:l.length<=1099511627776) :
  af 87 [.sl 5 (aD l),.sl 5 (aD r),.sU f G] (.bool (sO q l r)):=by
 by_cases I:l.length=r.length
 ·have O:((((aD l).length:Nat):Int) != (((aD r).length:Nat):Int))=false:=by rw[aZ,aZ,I];simp
  refine qn func87 call87 λβ hf=>?_
  repeat' (first|refine qz ?_|refine zc ?_ ?_|(intro h;first|(cases h;done)|rw[h]|skip))
  refine AK.dN (α:=Nat) (λi=>i<=l.length/\sO q l r=sO q (l.drop i) (r.drop i)) (λi=>l.length-i)
   (λi=>[(17,.c (.int .i64 i)),(16,.c (.int .i64 (aD l).length)),(15,.c (.sl 5 (aD l))),(1,.c (.sl 5 (aD r))),(2,.c (.sU f G))]) (λ_=>[]) (λ_=>[]) [] 0
   ⟨ai,Z⟩ ce trivial trivial Z Z Z ?_
  rintro i ⟨W,H⟩ ih;rcases ie l i W with ⟨x,D,V⟩|Y
  ·have T:=mT D;obtain⟨y,U⟩:∃y,r[i]?=some y:=⟨r[i]' oy,cc⟩;have hq:=B x V y (abz U);rw[dK D,dK U]at H;simp only[sO]at H;obtain⟨Q,a2,A,P,N⟩:=x;obtain⟨M,K,J,E,C⟩:=y
   repeat' (first|refine qz ?_|refine zc ?_ ?_|(intro h;first|(cases h;done)|rw[h]|skip)|refine uI Z (i) Z (eK D) Z ?_|refine uI Z (i) Z (eK U) Z ?_|refine uC Z hq ?_)
   rw[H];simp_all;refine AK.again (ih (i+1) ⟨bt D,?_⟩ oy) ⟨.inl (dY oy),.inl Z,.inl Z,.inl Z,.inl Z,trivial⟩ trivial trivial Z Z Z;simp_all
  have T:=jZ Y
  repeat' (first|refine qz ?_|refine zc ?_ ?_|(intro h;first|(cases h;done)|rw[h]|skip))
  rw[H,Fz q I Y]
 have O:((((aD l).length:Nat):Int) != (((aD r).length:Nat):Int))=true:=by rw[aZ,aZ];simp;omega
 rw[Bo q l r I];exact qdq func87 call87
def gn:∀(t u:Ty),bf t<=1099511627776->af 50 [cU t,cU u] (.bool (cV t u))
 |.mk T M,.mk U us,C=>by
  simp only[bf]at C;have Y:=kG M;have hq:=rL M us cV 50 [] (λx D y _=>gn x y (by have:=cI D;omega)) ai;rw[Bp]at hq;refine qn func50 call50 λβ hf=>?_
  repeat' (first|refine qz ?_|refine zc ?_ ?_|(intro h;first|(cases h;done)|rw[h]|skip)|refine uC Z hq ?_)
  all_goals simp_all [cV]
termination_by t=>SizeOf.sizeOf t
decreasing_by
 have:=aeQ D;simp at this ⊢;omega
end Go.Proofs
namespace Go.Proofs
open Go.cw
attribute [local irreducible] AK ah aR bM
def gV(r:CR):CV:=if r.2=0 then .eF [.agg [.sl 2 (az r.1.1),.bool r.1.2],.int .i64 0]else .eF [.agg [.any,.any],.int .i64 r.2]
def wG(r:CR):CV := .eF [.agg [.sl 2 (az r.1.1),.bool r.1.2],.int .i64 r.2]
def MM(s:L Ty)(b:Bool):gV ((s,b),0) = .eF [.agg [.sl 2 (az s),.bool b],.int .i64 0]:=rfl
def ff(s:L Ty):gV (gy s) = .eF [.agg [.sl 2 (az s),.bool false],.int .i64 0]:=rfl
def dL{e:Int}(h:e≠0):gV (bw e) = .eF [.agg [.any,.any],.int .i64 e]:=by unfold gV bw;rw[if_neg h]
def j7(e:Int):wG (bw e) = .eF [.agg [.sl 2 [],.bool false],.int .i64 e]:=rfl
def ahl{r:CR}:Wk (wG r) (gV r):=by unfold wG gV;by_cases h:r.2=0;rw[if_pos h,h];exact Wk.refl _;rw[if_neg h];exact CB rfl rfl
def xu:∀(n:Nat)(l:L Ty),(az l).drop n=az (l.drop n)
 |0,l=>rfl
 |n+1,[]=>rfl
 |n+1,x::l=>by simp only[az,agQ,xu n l]
def dB(T:Int)(l:L Ty):af 69 [.int .i64 T,.sl 2 (az l)] (cU (.mk T l)):=by exact qdw func69 call69
def cW(T:Int):af 69 [.int .i64 T,.sl 0 []] (cU (.mk T [])) :=
 aR.wk Jx (Wk.refl _) (dB T [])
def fB(l:L Ty)(I:l.length<=1099511627776):hJ 60 [.v (.c (.sl 2 (az l)))] [.own 2 (az l)] []:=by
 cases l with
 |nil =>
  refine en func60 call60 [(0,.c (.sl 2 []))] [] [] [] λβ hf=>?_
  repeat' (first|refine kM ?_|refine ze ?_ ?_|(intro h;first|(cases h;done)|rw[h]|skip)|refine AK.rM Z ?_ ?_|(refine uA Z ?_ ?_<;>(try (show(_:Nat)*_<=_;dsimp only))))
  all_goals first|exact Z|(show _<=_;decide)
 |cons x l =>
  have h1:=aQ l;simp only[aag]at I;refine en func60 call60 [(0,.c (.sl 2 (cU x::az l)))] [] [] [] λβ hf=>?_
  repeat' (first|refine kM ?_|refine ze ?_ ?_|(intro h;first|(cases h;done)|rw[h]|skip)|refine AK.rM Z ?_ ?_|(refine uA Z ?_ ?_<;>(try (show(_:Nat)*_<=_;dsimp only))))
  all_goals first|exact Z|(show _<=_;simp only[aag,aay];omega)
def pF(s l:L Ty)(C:s.length<=20000000000:=by first|omega|(simp only[aag,aay]at *;omega))(I:l.length<=20000000000:=by simp):af 124 [.sl 2 (az s),.sl 2 (az l)] (gV (gy (l++s))):=by rw[ff,lq];have h1:=fB l ai;have h2:=aQ l;have K:=aQ s;exact qdw func124 call124
def DI(s:L Ty)(C:s.length<=20000000000:=by first|omega|(simp only[aag,aay]at *;omega)):af 124 [.sl 2 (az s),.sl 0 []] (gV (gy s)) :=
 aR.wk Jx (Wk.refl _) (pF s [] C cc)
def xw(a b:L Ty)(T:sL a)(I:a.length<=20000000000):af 70 [.sl 2 (az a),.sl 2 (az b)] (.bool (gP a b)):=by have h1:=rL a b cV 50 [] (λx D y _=>gn x y (by have:=(T x D).2;omega)) ai;rw[Bp]at h1;exact qdw func70 call70
def jF(a b:CR)(T:sL a.1.1)(I:a.1.1.length<=20000000000):af 150
  [.agg [.sl 2 (az a.1.1),.bool a.1.2],.int .i64 a.2,.agg [.sl 2 (az b.1.1),.bool b.1.2],.int .i64 b.2] (wG (cZ a b)):=by
 have h1:=xw a.1.1 b.1.1 T I;obtain⟨⟨s,p⟩,e⟩:=a;obtain⟨⟨t,q⟩,f⟩:=b;simp only at h1 T I ⊢;unfold cZ;dsimp only;by_cases O:e≠0
 ·rw[if_pos O,j7];have E:(e != 0)=true:=by simpa using O
  clear h1;exact qdw func150 call150
 rw[if_neg O];obtain rfl:e=0:=by simpa using O
 by_cases Y:f≠0
 ·rw[if_pos Y,j7];have E:(f != 0)=true:=by simpa using Y
  clear h1;exact qdw func150 call150
 rw[if_neg Y];obtain rfl:f=0:=by simpa using Y
 cases p with
 |true =>
  rw[if_pos rfl];clear h1;exact qdw func150 call150
 |false =>
 rw[if_neg bn];cases q with
 |true =>
  rw[if_pos (.inl Z)];clear h1;exact qdw func150 call150
 |false =>
 cases C:gP s t with
 |true =>
  rw[if_pos (.inr Z)];rw[C]at h1;exact qdw func150 call150
 |false =>
  rw[if_neg cc,j7];rw[C]at h1;exact qdw func150 call150
def Qf:L Ty->L Int->Bool
 |_,[]=>true
 |[],_::_=>false
 |t::s,k::l=>(decide (k=0)||decide (dD t=k))&&Qf s l
def SO(T:Int)(us s:L Ty)(k:Int)(l:L Int):Qf (.mk T us::s) (k::l)=((decide (k=0)||decide (T=k))&&Qf s l):=rfl
def SP(k:Int)(l:L Int):Qf [] (k::l)=false:=rfl
def Ar(l:L CV)(n:Int)(h:n<((l.length:Nat):Int)):decide (((l.length:Nat):Int)>n)=true:=aaX h
def Ja:∀(s:L Ty)(l:L Int),s.length<l.length->Qf s l=false
 |_,[],h=>by simp at h
 |[],_::_,_=>rfl
 |t::s,k::l,h=>by simp only[Qf,Ja s l oe,Bool.and_false]
def acD{s:L Ty}{l:L Int}{t:Ty}{k:Int}{i:Nat}(h1:s[i]?=some t)(h2:l[i]?=some k):Qf (s.drop i) (l.drop i)=((decide (k=0)||decide (dD t=k))&&Qf (s.drop (i+1)) (l.drop (i+1))):=by rw[dK h1,dK h2];rfl
def Bq(s:L Ty):Qf s []=true:=by cases s<;>rfl
def Br(s:L Ty)(l:L Int)(P:s.length<=10000000000:=by first|omega|(simp only[aag,aay]at *;omega))(M:l.length<=10000000000:=by decide):af 149 [.sl 2 (az s),.sl 1 (cM l)] (.bool (Qf s l)):=by
 have B:=aQ s;have V:(cM l).length=l.length:=by simp[cM]
 by_cases I:s.length<l.length;rw[Ja s l I];have E:decide ((((az s).length:Nat):Int)<(((cM l).length:Nat):Int))=true:=aaX (by rw[B,V];omega);exact qdw func149 call149;have E:decide ((((az s).length:Nat):Int)<(((cM l).length:Nat):Int))=false:=aaY (by rw[B,V];omega);refine qn func149 call149 λβ hf=>?_
 repeat' (first|refine kM ?_|refine zc ?_ ?_|(intro h;first|(cases h;done)|rw[h]|skip))
 refine AK.dN (α:=Nat) (λi=>i<=l.length/\Qf s l=Qf (s.drop i) (l.drop i)) (λi=>l.length-i)
  (λi=>[(14,.c (.int .i64 i)),(13,.c (.int .i64 (cM l).length)),(12,.c (.sl 1 (cM l))),(0,.c (.sl 2 (az s)))]) (λ_=>[]) (λ_=>[]) [] 0
  ⟨ai,Z⟩ ce trivial trivial Z Z Z ?_
 rintro i ⟨U,H⟩ ih;rcases ie l i U with ⟨k,A,q⟩|O
 ·have I:=ZN A;have h2:=bt A;obtain⟨t,C⟩:∃t,s[i]?=some t:=⟨s[i]' ai,cc⟩;rw[acD C A]at H;obtain⟨T,us⟩:=t;by_cases W:k=0
  ·subst W;rw[aaX Z,Bool.true_or,afS]at H
   repeat' (first|refine kM ?_|refine zc ?_ ?_|(intro h;first|(cases h;done)|rw[h]|skip)|refine uI Z (i) Z (ints_at A) Z ?_|refine uI Z (i) Z (gG C) Z ?_)
   refine AK.again (ih (i+1) ⟨h2,H⟩ ai) ⟨.inl (dY ai),.inl Z,.inl Z,.inl Z,trivial⟩ trivial trivial Z Z Z
  have N:(k != 0)=true:=by simpa using W
  by_cases Y:T=k
  ·have S:(T != k)=false:=(by simpa using Y);rw[aaX (show dD (.mk T us)=k from Y),Bool.or_true,afS]at H
   repeat' (first|refine kM ?_|refine zc ?_ ?_|(intro h;first|(cases h;done)|rw[h]|skip)|refine uI Z (i) Z (ints_at A) Z ?_|refine uI Z (i) Z (gG C) Z ?_)
   refine AK.again (ih (i+1) ⟨h2,H⟩ ai) ⟨.inl (dY ai),.inl Z,.inl Z,.inl Z,trivial⟩ trivial trivial Z Z Z
  have S:(T != k)=true:=by simpa using Y
  rw[aaY (show ¬dD (.mk T us)=k from Y),aaY W,Bool.or_false,afc]at H;rw[H];clear ih;have K:=ints_at A;have J:=gG C;exact dw
 have I:=Wf O;have Q:Qf s l=true:=by rw[H,O,aeT,Bq]
 rw[Q];clear ih;exact dw
end Go.Proofs
namespace Go.cw
def yS(w a:Nat):(BitVec.ofInt w (a:Int)).toNat=a%2^w:=by rw[BitVec.ofInt_natCast,BitVec.toNat_ofNat]
def SQ{a:Nat}(h:a<9223372036854775808)(k:Nat)(A:k<63):i64.wrap (((BitVec.ofInt 64 (a:Int))&&&(BitVec.ofInt 64 ((2^k-1:Nat):Int))).toNat)=((a%2^k:Nat):Int):=by have h2:(2:Nat)^k<=2^62:=aid ai ai;have K:0<(2:Nat)^k:=Nat.pow_pos ai;rw[BitVec.toNat_and,yS,yS,ahz (show a<2^64 by omega),ahz (show 2^k-1<2^64 by omega),ais];have Y:a%2^k<2^k:=Nat.mod_lt _ K;exact iB ai ai
def MN{a:Nat}(h:a<9223372036854775808):i64.wrap (((BitVec.ofInt 64 (a:Int))&&&(BitVec.ofInt 64 63)).toNat)=((a%64:Nat):Int):=SQ h 6 (by omega)
def Wg{a:Nat}(h:a<9223372036854775808):i64.wrap (((BitVec.ofInt 64 (a:Int))&&&(BitVec.ofInt 64 127)).toNat)=((a%128:Nat):Int):=SQ h 7 (by omega)
def Qg{a:Nat}(h:a<256):IntKind.u8.wrap (a:Int)=a:=by have:=pG (a:Int);rw[jN a h]at this;exact this.symm
def acE:∀c:Fin 128,IntKind.u8.wrap (((BitVec.ofInt 8 ((c.val:Nat):Int))|||(BitVec.ofInt 8 128)).toNat)=((c.val+128:Nat):Int):=by decide +kernel
def aeD{c:Nat}(h:c<128):IntKind.u8.wrap (((BitVec.ofInt 8 (c:Int))|||(BitVec.ofInt 8 128)).toNat)=((c+128:Nat):Int):=acE ⟨c,h⟩
def ZO:∀x:Fin 64,IntKind.u8.wrap (((BitVec.ofInt 8 64)|||(BitVec.ofInt 8 ((x.val:Nat):Int))).toNat)=((64+x.val:Nat):Int):=by decide +kernel
def or_none:∀x:Fin 64,IntKind.u8.wrap (((BitVec.ofInt 8 0)|||(BitVec.ofInt 8 ((x.val:Nat):Int))).toNat)=((0+x.val:Nat):Int):=by decide +kernel
def Ui:∀c:Fin 256,(i64.wrap (((BitVec.ofInt 64 ((c.val:Nat):Int))&&&(BitVec.ofInt 64 64)).toNat) != 0)=decide (c.val/64%2=1):=by decide +kernel
def Wh{c:Nat}(h:c<256):(i64.wrap (((BitVec.ofInt 64 (c:Int))&&&(BitVec.ofInt 64 64)).toNat) != 0)=decide (c/64%2=1):=Ui ⟨c,h⟩
def Wi{n x T:Nat}(B:n<2^T)(D:x<128)(C:T<=55):i64.wrap (((BitVec.ofInt 64 (n:Int))|||(BitVec.ofInt 64 (i64.wrap ((x:Int)*2^(min T 64))))).toNat)=((n+x*2^T:Nat):Int):=by
 have h2:(2:Nat)^T<=2^55:=aid ai C;have K:x*2^T<=127*2^55:=Nat.mul_le_mul ai h2;have e:(x:Int)*2^(min T 64)=((x*2^T:Nat):Int):=by rw[aiv ai];simp
 rw[e,iB (n:=((x*2^T:Nat):Int)) ai ai,BitVec.toNat_or,yS,yS,ahz (show n<2^64 by omega),ahz (show x*2^T<2^64 by omega)];rw[Nat.or_comm,<- Nat.shiftLeft_eq,<- Nat.shiftLeft_add_eq_or_of_lt B x,Nat.shiftLeft_eq,Nat.add_comm];exact iB ai ai
def SR(a k:Nat):(a:Int).fdiv (2^k)=((a/2^k:Nat):Int):=by rw[ahM _ (by exact Int.le_of_lt (Int.pow_pos ai))];simp
end Go.cw
namespace Go.Proofs
open Go.cw
attribute [local irreducible] AK ah aR bM aJ
def KC(p:Int):af 121 [.int .i64 p] (.str (gH p)):=by
 refine qn func121 call121 λβ hf=>?_
 repeat' (first|refine kM ?_|refine zc ?_ ?_|(intro h;first|(cases h;done)|rw[h]|skip))
 all_goals
  clear hf;refine Wk.of_eq (aeM CV.str ?_);unfold gH;simp_all
def four(a:Int):a=3\/a=4\/a=5\/((a==3)=false/\(a==4)=false/\(a==5)=false):=by grind
def Qh(p a b:Int)(S:p=69\/p=70\/p=71\/p=72):af 151 [.int .i64 p,.int .i64 a,.int .i64 b] (.int .i64 (pe p a b)):=by
 rcases S with rfl|rfl|rfl|rfl<;>rcases four a with rfl|rfl|rfl|⟨W,a2,A⟩<;>rcases four b with rfl|rfl|rfl|⟨Y,V,H⟩
 all_goals
  refine qn func151 call151 λβ hf=>?_
  repeat' (first|refine kM ?_|refine zc ?_ ?_|(intro h;first|(cases h;done)|rw[h]|skip))
  all_goals
   clear hf;refine Wk.of_eq (aeM (CV.int .i64) ?_);unfold pe;simp_all
def Ik(l:L Nd)(p:Nd->Bool)(f:FuncId)(G:L CV)(B:∀x∈l,af f (aM x::G) (.bool (p x)))(S:l.length<=1099511627776) :
  af 114 [.sl 5 (aD l),.sU f G] (.int .i64 (idxOf p l)):=by
 refine qn func114 call114 λβ hf=>?_;refine AK.Qi hX mixed 300 Z ?_;refine AK.dN (α:=Nat) (λi=>i<=l.length/\∀(j:Nat) x,j<i->l[j]?=some x->p x=false) (λi=>l.length-i)
  (λi=>[(8,.c (.int .i64 i)),(7,.c (.int .i64 (aD l).length)),(0,.c (.sl 5 (aD l))),(1,.c (.sU f G))]) (λ_=>[]) (λ_=>[]) [] 0
  ⟨ai,by intro j x h;omega⟩ ce trivial trivial Z Z Z ?_
 rintro i ⟨V,K⟩ ih;rcases ie l i V with ⟨x,D,T⟩|O
 ·have I:=mT D;have hq:=B x T;have h2:=bt D;cases U:p x with
  |true =>
   rw[U]at hq;rw[xx p l i x D U K];obtain⟨u,M,Q,P,N⟩:=x;clear ih;have H:=eK D;exact dw
  |false =>
   rw[U]at hq
   have J:=ih (i+1) ⟨ai,λj y E Y=>by
    by_cases W:j=i;subst W;rw[D]at Y;simp at Y;subst Y;exact U
    exact K j y ai Y⟩ ai
   obtain⟨u,M,Q,P,N⟩:=x
   repeat' (first|refine kM ?_|refine zc ?_ ?_|(intro h;first|(cases h;done)|rw[h]|skip)|refine uI Z (i) Z (eK D) Z ?_|refine uC Z hq ?_)
   refine AK.again J ⟨.inl ?_,.inl Z,.inl Z,.inl Z,trivial⟩ trivial trivial Z Z Z;rw[iB ai ai];rfl
 have I:=jZ O
 have C:idxOf p l = -1:=At p l (λj y q=>by
  have:=bt q
  exact K j y ai q)
 rw[C];clear ih;exact dw
def CC(l:L Nd)(p:Nd->Bool)(f:FuncId)(G:L CV)(B:∀x∈l,af f (aM x::G) (.bool (p x)))(S:l.length<=1099511627776) :
  af 96 [.sl 5 (aD l),.sU f G] (.bool (l.any p)):=by
 refine qn func96 call96 λβ hf=>?_
 repeat' (first|refine kM ?_|refine uC Z (Ik l p f G B S) ?_)
 all_goals exact Wk.of_eq (aeM CV.bool (CD p l))
def FB:∀(l:L Nd),j8 l=l.any MO
 |[]=>rfl
 |x::l=>by simp only[j8,ahW,FB l]
def xy(l:L Nd)(I:aO l<=1099511627776):af 73 [.sl 5 (aD l)] (.bool (j8 l)):=by
 have T:∀x∈l,af 97 [aM x] (.bool (MO x)):=by
  rintro⟨k,n,p,s,xs⟩ hx;have u:=eO hx;simp only[bD]at u;have Y:=xy xs ai;unfold MO;by_cases A:k=2;subst A;by_cases S:p=84;subst S;rw[aaX ⟨Z,Z⟩];exact qdw func97 call97;rw[aaY (λh=>S h.2)];have E:(p==84)=false:=(by simpa using S);exact qdw func97 call97;rw[aaY (λh=>A h.1)];have E:(k==2)=false:=by simpa using A
  exact qdw func97 call97
 have B:=gu l;have h1:=CC l MO 97 [] T ai;rw[<- FB]at h1;exact qdw func73 call73
termination_by SizeOf.sizeOf l
decreasing_by
 have:=aeQ hx;simp at this ⊢;omega
end Go.Proofs
namespace Go.Proofs
open Go.cw
attribute [local irreducible] AK ah aR bM aJ
def Qj{p:Int}{w:UInt8}(h:w∈gH p):w=110\/w=99\/w=116\/w=118:=by
 unfold gH at h
 repeat' (split at h)
 all_goals simp at h
 all_goals (try (rcases h with h|h|h))
 all_goals (try (rcases h with h|h))
 all_goals (try subst h)
 all_goals simp
def Wj(l:L Nd)(acc:L Ty):ku [] l acc=some acc:=by unfold ku;rfl
def acF(K:L UInt8)(Y N P:Int)(S:L UInt8)(xs l:L Nd)(acc:L Ty):ku (110::K) (.mk Y N P S xs::l) acc=if Y=0/\0<=N/\N<=40 then ku K l acc else none:=by
 conv=>lhs;unfold ku
 rw[if_pos rfl]
def acG(K:L UInt8)(Y N P:Int)(S:L UInt8)(xs l:L Nd)(acc:L Ty):ku (99::K) (.mk Y N P S xs::l) acc=if Y=3 then ku K l acc else none:=by
 conv=>lhs;unfold ku
 rw[if_neg bn,if_pos rfl]
def acH(K:L UInt8)(Y N P:Int)(S:L UInt8)(xs l:L Nd)(acc:L Ty):ku (116::K) (.mk Y N P S xs::l) acc=if(aJ (.mk Y N P S xs)).2=0 then ku K l (acc++[(aJ (.mk Y N P S xs)).1])else none:=by
 conv=>lhs;unfold ku
 rw[if_neg bn,if_neg bn,if_pos rfl]
def acI(K:L UInt8)(Y N P:Int)(S:L UInt8)(xs l:L Nd)(acc:L Ty):ku (118::K) (.mk Y N P S xs::l) acc=ku K l acc:=by
 conv=>lhs;unfold ku
 rw[if_neg bn,if_neg bn,if_neg bn]
def ZP:Option (L Ty)->CV
 |some l => .eF [.sl 2 (az l),.bool true]
 |none => .eF [.sl 2 [],.bool false]
def MP(T N P:Int)(S:L UInt8)(M:L Nd)(hn:aO M<=8589934593):af 104 [aM (.mk T N P S M)] (ZP (bP P M)):=by
 have h1:=KC P;have Qk:=gu M;have C:=aZ M;unfold bP;by_cases O:P<40;rw[if_pos (.inl O)];have e1:decide (P<40)=true:=aaX O;exact qdw func104 call104;have e1:decide (P<40)=false:=aaY O;by_cases c2:M.length≠(gH P).length
 ·rw[if_pos (.inr c2)];have q:((((aD M).length:Nat):Int) != (((gH P).length:Nat):Int))=true:=by rw[C];simp;omega
  exact qdw func104 call104
 rw[if_neg ai];have B:M.length=(gH P).length:=by omega
 have q:((((aD M).length:Nat):Int) != (((gH P).length:Nat):Int))=false:=by rw[C];simp;omega
 have W:=λw h => @Qj P w h;generalize gH P=K at h1 B q W ⊢;refine qn func104 call104 λβ hf=>?_
 repeat' (first|refine kM ?_|refine zc ?_ ?_|(intro h;first|(cases h;done)|rw[h]|skip)|refine uC Z h1 ?_|(refine uA Z ?_ ?_<;>(try (show(_:Nat)*_<=_;dsimp only))))
 refine AK.fY [] [(6000,(0,none))] (env':=[(27,.c (.int .i64 (0:Nat))),(26,.c (.int .i64 (aD M).length)),(25,.c (.sl 5 (aD M))),(4,.c (.str K)),(5,.own (.tok 6000 0) 2 [])])
  (bs':=[]) (ts':=[(6000,0)]) (us':=[6000])
  ce  trivial Z ?_
 refine AK.dN (α:=Nat×L Ty) (λz=>z.1<=M.length/\z.2.length<=z.1/\ku K M []=ku (K.drop z.1) (M.drop z.1) z.2) (λz=>M.length-z.1)
  (λz=>[(27,.c (.int .i64 z.1)),(26,.c (.int .i64 (aD M).length)),(25,.c (.sl 5 (aD M))),(4,.c (.str K)),(5,.own (.tok 6000 0) 2 (az z.2))]) (λ_=>[]) (λ_=>[(6000,0)]) [6000] (0,[])
  ⟨ai,cc,Z⟩ ce trivial ⟨Z,trivial⟩ Z Z Z ?_
 rintro⟨i,acc⟩ ⟨G,Fx,H⟩ ih;simp only at G Fx H;rcases ie M i G with ⟨x,D,hm⟩|E
 ·have hc:=mT D;have h2:=bt D;obtain⟨w,Y⟩:∃w,K[i]?=some w:=⟨K[i]' ai,cc⟩;have MQ:=W w (abz Y);have hxs:=eO hm;have A:=jE x ai;rw[dK D,dK Y]at H;obtain⟨u,V,k3,k4,k5⟩:=x;rcases MQ with rfl|rfl|rfl|rfl
  ·have J:((((110:UInt8).toNat:Nat):Int)==110)=true:=rfl;rw[acF]at H;by_cases g1:u=0;rotate_left
   ·rw[if_neg (λh=>g1 h.1)]at H;rw[H];have Q:(u != 0)=true:=(by simpa using g1);clear ih H
    repeat' (first|refine kM ?_|refine zc ?_ ?_|(intro h;first|(cases h;done)|rw[h]|skip)|refine uI Z (i) Z (eK D) Z ?_|refine ah.nh hX kn Z Z Z Z Z Z Z (m:=i) Z Y ?_|(refine uA Z ?_ ?_<;>(try (show(_:Nat)*_<=_;dsimp only))))
    all_goals exact yT
   subst g1;by_cases g3:V<0
   ·rw[if_neg (λh=>by omega)]at H;rw[H];have Q:decide (V<0)=true:=aaX g3;clear ih H
    repeat' (first|refine kM ?_|refine zc ?_ ?_|(intro h;first|(cases h;done)|rw[h]|skip)|refine uI Z (i) Z (eK D) Z ?_|refine ah.nh hX kn Z Z Z Z Z Z Z (m:=i) Z Y ?_|(refine uA Z ?_ ?_<;>(try (show(_:Nat)*_<=_;dsimp only))))
    all_goals exact yT
   have g4:decide (V<0)=false:=aaY g3;by_cases g5:V>40
   ·rw[if_neg (λh=>by omega)]at H;rw[H];have Q:decide (V>40)=true:=aaX g5;clear ih H
    repeat' (first|refine kM ?_|refine zc ?_ ?_|(intro h;first|(cases h;done)|rw[h]|skip)|refine uI Z (i) Z (eK D) Z ?_|refine ah.nh hX kn Z Z Z Z Z Z Z (m:=i) Z Y ?_|(refine uA Z ?_ ?_<;>(try (show(_:Nat)*_<=_;dsimp only))))
    all_goals exact yT
   have g6:decide (V>40)=false:=aaY g5;rw[if_pos ⟨Z,ai,ai⟩]at H
   repeat' (first|refine kM ?_|refine zc ?_ ?_|(intro h;first|(cases h;done)|rw[h]|skip)|refine uI Z (i) Z (eK D) Z ?_|refine ah.nh hX kn Z Z Z Z Z Z Z (m:=i) Z Y ?_|(refine uA Z ?_ ?_<;>(try (show(_:Nat)*_<=_;dsimp only))))
   refine AK.again (ih (i+1,acc) ⟨h2,acR,H⟩ fo) ⟨.inl (dY (i:=i) ai),.inl Z,.inl Z,.inl Z,.inl Z,trivial⟩ trivial ⟨Z,trivial⟩ Z Z Z
  ·have J:((((99:UInt8).toNat:Nat):Int)==110)=false:=rfl;have f2:((((99:UInt8).toNat:Nat):Int)==99)=true:=rfl;rw[acG]at H;by_cases g1:u=3;rotate_left
   ·rw[if_neg g1]at H;rw[H];have Q:(u != 3)=true:=(by simpa using g1);clear ih H
    repeat' (first|refine kM ?_|refine zc ?_ ?_|(intro h;first|(cases h;done)|rw[h]|skip)|refine uI Z (i) Z (eK D) Z ?_|refine ah.nh hX kn Z Z Z Z Z Z Z (m:=i) Z Y ?_|(refine uA Z ?_ ?_<;>(try (show(_:Nat)*_<=_;dsimp only))))
    all_goals exact yT
   subst g1;rw[if_pos rfl]at H
   repeat' (first|refine kM ?_|refine zc ?_ ?_|(intro h;first|(cases h;done)|rw[h]|skip)|refine uI Z (i) Z (eK D) Z ?_|refine ah.nh hX kn Z Z Z Z Z Z Z (m:=i) Z Y ?_|(refine uA Z ?_ ?_<;>(try (show(_:Nat)*_<=_;dsimp only))))
   refine AK.again (ih (i+1,acc) ⟨h2,acR,H⟩ fo) ⟨.inl (dY (i:=i) ai),.inl Z,.inl Z,.inl Z,.inl Z,trivial⟩ trivial ⟨Z,trivial⟩ Z Z Z
  ·have J:((((116:UInt8).toNat:Nat):Int)==110)=false:=rfl;have f2:((((116:UInt8).toNat:Nat):Int)==99)=false:=rfl;have f3:((((116:UInt8).toNat:Nat):Int)==116)=true:=rfl;rw[acH]at H;rcases hr:aJ (.mk u V k3 k4 k5)with ⟨⟨U,us⟩,e⟩
   rw[hr]at A H;simp only at A H;by_cases g1:e=0;rotate_left
   ·rw[if_neg g1]at H;rw[H];have Q:(e != 0)=true:=(by simpa using g1);clear ih H
    repeat' (first|refine kM ?_|refine zc ?_ ?_|(intro h;first|(cases h;done)|rw[h]|skip)|refine uI Z (i) Z (eK D) Z ?_|refine ah.nh hX kn Z Z Z Z Z Z Z (m:=i) Z Y ?_|refine uC Z A ?_|(refine uA Z ?_ ?_<;>(try (show(_:Nat)*_<=_;dsimp only))))
    all_goals exact yT
   subst g1;rw[if_pos rfl]at H
   repeat' (first|refine kM ?_|refine zc ?_ ?_|(intro h;first|(cases h;done)|rw[h]|skip)|refine uI Z (i) Z (eK D) Z ?_|refine ah.nh hX kn Z Z Z Z Z Z Z (m:=i) Z Y ?_|refine uC Z A ?_|(refine uA Z ?_ ?_<;>(try (show(_:Nat)*_<=_;dsimp only))))
   have h1:=aQ acc;simp only[aag,aay];omega;have I:az acc++[cU (.mk U us)]=az (acc++[Ty.mk U us]):=(lq acc [_]).symm;refine AK.fY [] [(6000,(0,some 6000))] (env':=[(27,.c (.int .i64 ((i+1:Nat):Int))),(26,.c (.int .i64 (aD M).length)),(25,.c (.sl 5 (aD M))),(4,.c (.str K)),(5,.own (.tok 6000 0) 2 (az (acc++[Ty.mk U us])))])
    (bs':=[]) (ts':=[(6000,0)]) (us':=[6000])
    ⟨⟨_,Z,.inl (kL (i:=i) ai)⟩,⟨_,Z,.inl Z⟩,⟨_,Z,.inl Z⟩,⟨_,Z,.inl Z⟩,⟨_,Z,⟨_,Z,.inr ⟨_,_,Z,Z,aeM (AV.own (.tok 6000 1) 2) I⟩⟩⟩,trivial⟩ trivial Z ?_
   exact ih (i+1,acc++[Ty.mk U us]) ⟨h2,ob,H⟩ fo
  have J:((((118:UInt8).toNat:Nat):Int)==110)=false:=rfl;have f2:((((118:UInt8).toNat:Nat):Int)==99)=false:=rfl;have f3:((((118:UInt8).toNat:Nat):Int)==116)=false:=rfl;rw[acI]at H
  repeat' (first|refine kM ?_|refine zc ?_ ?_|(intro h;first|(cases h;done)|rw[h]|skip)|refine uI Z (i) Z (eK D) Z ?_|refine ah.nh hX kn Z Z Z Z Z Z Z (m:=i) Z Y ?_|(refine uA Z ?_ ?_<;>(try (show(_:Nat)*_<=_;dsimp only))))
  refine AK.again (ih (i+1,acc) ⟨h2,acR,H⟩ fo) ⟨.inl (dY (i:=i) ai),.inl Z,.inl Z,.inl Z,.inl Z,trivial⟩ trivial ⟨Z,trivial⟩ Z Z Z
 have hc:=jZ E;have h0:ku K M []=some acc:=by rw[H,E,aeT,B,aeT];exact Wj _ _
 rw[h0];clear ih H;exact dw
def zW(s:L Ty)(l:L Int)(h:Qf s l=true:=by first|(simp[SO,SP,Bq];done)|(simp[*,SO,SP,Bq]<;>assumption))(C:s.length<=10000000000:=by first|omega|(simp only[aag,aay]at *;omega))(I:l.length<=10000000000:=by decide):af 149 [.sl 2 (az s),.sl 1 (cM l)] (.bool true):=by have:=Br s l C I;rwa[h]at this
def lB(s:L Ty)(l:L Int)(h:Qf s l=false:=by first|(simp[SO,SP,Bq];done)|(simp[*,SO,SP,Bq]<;>assumption))(C:s.length<=10000000000:=by first|omega|(simp only[aag,aay]at *;omega))(I:l.length<=10000000000:=by decide):af 149 [.sl 2 (az s),.sl 1 (cM l)] (.bool false):=by have:=Br s l C I;rwa[h]at this
def uh(s l:L Ty)(C:s.length<=20000000000:=by first|omega|(simp only[aag,aay]at *;omega))(I:l.length<=20000000000:=by simp):af 124 [.sl 2 (az s),.sl 2 (az l)] (.eF [.agg [.sl 2 (az (l++s)),.bool false],.int .i64 0]):=pF s l C I
def Ql(s:L Ty)(C:s.length<=20000000000:=by first|omega|(simp only[aag,aay]at *;omega)):af 124 [.sl 2 (az s),.sl 0 []] (.eF [.agg [.sl 2 (az s),.bool false],.int .i64 0]):=DI s C
end Go.Proofs
