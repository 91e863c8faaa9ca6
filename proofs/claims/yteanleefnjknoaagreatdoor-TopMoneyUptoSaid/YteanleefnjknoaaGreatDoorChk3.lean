/- What kind.Good and kind.parse answer. -/
import Derived.Test.YteanleefnjknoaaGreatDoorKind6
import Derived.Test.YteanleefnjknoaaGreatDoorTPure
open Go.IntKind
open Go.Proofs.Tryz
set_option linter.defProp false
set_option maxHeartbeats 0
set_option linter.unusedVariables false
set_option linter.unusedSimpArgs false
namespace Go.Proofs
open Go.cK
def HD(T A p:Int)(s:L UInt8)(J:L Nd)(d left:Int)(h:left-1<0\/d>24\/T≠2\/A≠0\/s≠[]\/arity p≠J.length):fZ (.mk T A p s J) d left=(none,left-1):=by
 simp only[fZ,if_pos h]
def SN(T A p:Int)(s:L UInt8)(J:L Nd)(d left:Int)(h:¬(left-1<0\/d>24\/T≠2\/A≠0\/s≠[]\/arity p≠J.length)) :
  fZ (.mk T A p s J) d left=((eA J (d+1) (left-1)).1.map (.mk p),(eA J (d+1) (left-1)).2):=by
 simp only[fZ,if_neg h];rcases eA J (d+1) (left-1)with ⟨b,m⟩
 cases b<;>rfl
def Lk(d m:Int):eA [] d m=(some [],m):=rfl
def Je(t:Nd)(l:L Nd)(d n:Int):eA (t::l) d n=match (fZ t d n).1 with
  |some y=>((eA l d (fZ t d n).2).1.map (y :: ·),(eA l d (fZ t d n).2).2)
  |none=>(none,(fZ t d n).2):=by
 simp only[eA];rcases fZ t d n with ⟨b,m⟩
 cases b with
 |none=>rfl
 |some y =>
  simp only;rcases eA l d m with ⟨r,P⟩
  cases r<;>rfl
def eO{l:L Nd}{i:Nat}{x:Nd}(h:l[i]?=some x):(aH l)[i]?=some (aW x):=by rw[Ek,h];rfl
def mT{l:L Nd}{i:Nat}{x:Nd}(h:l[i]?=some x):decide (((i:Nat):Int)<(((aH l).length:Nat):Int))=true:=dec_lt (by have:=bD h;rw[bt];omega)
def kr{l:L Nd}{i:Nat}(h:i=l.length):decide (((i:Nat):Int)<(((aH l).length:Nat):Int))=false:=Jf (by rw[bt];omega)
def kR:∀(a:L Ty)(b:L Ty),aA (a++b)=aA a++aA b
 |[],b=>rfl
 |t::a,b=>by simp[aA,kR a b]
def mF:∀(a:L Nd)(b:L Nd),aH (a++b)=aH a++aH b
 |[],b=>rfl
 |t::a,b=>by simp[aH,mF a b]
def ku{i:Nat}(h:i<1099511627776):AV.c (CV.int .i64 (i64.wrap ((i:Int)+1)))=AV.c (CV.int .i64 ((i+1:Nat):Int)):=by
 rw[iy bn bn];rfl
def HE:Option Ty->Ty
 |some t=>t
 |none => .mk 0 []
attribute [local irreducible] AK af bg cn fC ey lD fY fZ eA
def lE(t:Ty)(I:bw t<=8589934593):ah 22 [dg t] (.bool (bB t)):=by
 have hq:=um t 1 0 I bn bn bn bn;obtain⟨T,J⟩:=t;refine qn func22 call22 λβ hf=>?_
 repeat' (first|refine pJ ?_|refine mP ?_ (hq:=hq))
 rfl
def Cy:∀(n:Nd)(d left:Int),bM n<=8589934593->0<=d->d<=1099511627776-bM n->0<=left->left<=300 ->
  gT 105 [.v (.c (aW n)),.v (.c (.int .i64 d)),.box [.c (.int .i64 left)]] [.c (dg (HE (fZ n d left).1)),.c (.bool (fZ n d left).1.isSome)] [(2,[.c (.int .i64 (fZ n d left).2)])]
 |.mk T A p s J=>by
  intro d left D OL u C hn;simp only[bM]at D u;have Lb:=gG J;have V:∀x∈J,∀m:Int,0<=m->m<=300->gT 105 [.v (.c (aW x)),.v (.c (.int .i64 (i64.wrap (d+1)))),.box [.c (.int .i64 m)]] [.c (dg (HE (fZ x (d+1) m).1)),.c (.bool (fZ x (d+1) m).1.isSome)] [(2,[.c (.int .i64 (fZ x (d+1) m).2)])]:=by
   intro x O m q h1;have:=eX O;rw[iy bn bn];exact Cy x (d+1) m bn bn bn q h1
  have I:i64.wrap (left-1)=left-1:=iy bn bn;refine en func105 call105 [(0,.c (aW (.mk T A p s J))),(1,.c (.int .i64 d)),(2,.ptr 1002000 0)] [(1002000,[.c (.int .i64 left)])] [] [1002000] λβ hf=>?_
  repeat' (first|refine pJ ?_|refine ze ?_ ?_|(intro h;first|(cases h;done)|rw[h]|skip)|refine uC Z (vP p) ?_|(refine uA Z ?_ ?_<;>(try (show(_:Nat)*_<=_;dsimp only))))
  rotate_left 12
  ·refine AK.fV [(6,6),(8,8),(1002000,1002000)] [(8000,(0,none))] (env':=[(57,.c (.int .i64 (0:Nat))),(56,.c (.int .i64 (aH J).length)),(55,.c (.sl 5 (aH J))),(1,.c (.int .i64 d)),(2,.ptr 1002000 0),(6,.ptr 6 0),(8,.ptr 8 0)])
    (bs':=[(6,[.c (.int .i64 0),.own .exact 2 []]),(8,[.c (.int .i64 p),.own (.tok 8000 0) 2 []]),(1002000,[.c (.int .i64 (left-1))])]) (ts':=[(8000,0)]) (us':=[6,8,1002000,8000])
    ce 
    ⟨ce,ce,⟨_,_,Z,Z,⟨_,_,Z,.inl (aeb (λk=>AV.c (.int .i64 k)) I),Z⟩⟩,trivial⟩ Z ?_
   refine AK.eL (α:=Nat×L Ty×Int) (λz=>z.1<=J.length/\z.1=z.2.1.length/\eA J (d+1) (left-1)=((eA (J.drop z.1) (d+1) z.2.2).1.map (z.2.1 ++ ·),(eA (J.drop z.1) (d+1) z.2.2).2)/\0<=z.2.2/\z.2.2<=300) (λz=>J.length-z.1)
    (λz=>[(57,.c (.int .i64 z.1)),(56,.c (.int .i64 (aH J).length)),(55,.c (.sl 5 (aH J))),(1,.c (.int .i64 d)),(2,.ptr 1002000 0),(6,.ptr 6 0),(8,.ptr 8 0)])
    (λz=>[(6,[.c (.int .i64 0),.own .exact 2 []]),(8,[.c (.int .i64 p),.own (.tok 8000 0) 2 (aA z.2.1)]),(1002000,[.c (.int .i64 z.2.2)])]) (λ_=>[(8000,0)]) [6,8,1002000,8000] (0,[],left-1)
    ⟨bn,Z,cS,?_,by show left-1<=300;omega⟩ ce ⟨Z,Z,Z,trivial⟩ ⟨Z,trivial⟩ Z Z Z ?_
   ·have:¬(left-1<0):=by simp_all
    show 0<=left-1;omega
   rintro⟨i,acc,m⟩ ⟨K,G,N,Y,E⟩ ih;simp only at K G N Y E;have hk:¬(left-1<0\/d>24\/T≠2\/A≠0\/s≠[]\/arity p≠J.length):=by
    clear ih V hf;simp_all [bt]
   have S:=SN T A p s J d left hk;rcases iq J i K with ⟨x,O,Q⟩|B
   ·have hc:=mT O;have hq:=V x Q m Y E;have W:=HF x (d+1) m Y;rw[dZ O,Je]at N;rcases hr:fZ x (d+1) m with ⟨b,P⟩
    rw[hr]at hq W N;obtain⟨xk,xn,xp,xs,xa⟩:=x;cases b with
    |none =>
     simp only[HE,Option.isSome_none]at hq N
     repeat' (first|refine pJ ?_|refine ze ?_ ?_|(intro h;first|(cases h;done)|rw[h]|skip)|refine uI Z (i) Z (eO O) Z ?_|refine mP ?_ (hq:=hq)|(refine uA Z ?_ ?_<;>(try (show(_:Nat)*_<=_;dsimp only))))
     ·rw[S,N];rfl
     ·rw[S,N]
    |some y =>
     obtain⟨U,us⟩:=y;simp only[HE,Option.isSome_some]at hq N
     repeat' (first|refine pJ ?_|refine ze ?_ ?_|(intro h;first|(cases h;done)|rw[h]|skip)|refine uI Z (i) Z (eO O) Z ?_|refine mP ?_ (hq:=hq)|(refine uA Z ?_ ?_<;>(try (show(_:Nat)*_<=_;dsimp only))))
     ·have h1:=aZ acc;have h2:=bD O;simp only[aac,aad];omega
     ·have M:aA acc++[dg (.mk U us)]=aA (acc++[Ty.mk U us]):=(kR acc [.mk U us]).symm;refine AK.fV [(6,6),(8,8),(1002000,1002000)] [(8000,(0,some 8000))] (env':=[(57,.c (.int .i64 ((i+1:Nat):Int))),(56,.c (.int .i64 (aH J).length)),(55,.c (.sl 5 (aH J))),(1,.c (.int .i64 d)),(2,.ptr 1002000 0),(6,.ptr 6 0),(8,.ptr 8 0)])
       (bs':=[(6,[.c (.int .i64 0),.own .exact 2 []]),(8,[.c (.int .i64 p),.own (.tok 8000 0) 2 (aA (acc++[Ty.mk U us]))]),(1002000,[.c (.int .i64 P)])]) (ts':=[(8000,0)]) (us':=[6,8,1002000,8000])
       ⟨⟨_,Z,.inl (ku (i:=i) rP)⟩,⟨_,Z,.inl Z⟩,⟨_,Z,.inl Z⟩,⟨_,Z,.inl Z⟩,⟨_,Z,⟨_,Z,Z⟩⟩,⟨_,Z,⟨_,Z,Z⟩⟩,⟨_,Z,⟨_,Z,Z⟩⟩,trivial⟩
       ⟨ce,⟨_,_,Z,Z,⟨_,_,Z,.inl Z,⟨_,_,Z,⟨_,Z,.inr ⟨_,_,Z,Z,aeb (AV.own (.tok 8000 1) 2) M⟩⟩,Z⟩⟩⟩,ce,trivial⟩ Z ?_
      refine ih (i+1,acc++[Ty.mk U us],P) ⟨bD O,adw,?_,?_,?_⟩ abJ
      ·show eA J (d+1) (left-1)=_;rw[N];rcases eA (List.drop (i+1) J) (d+1) P with ⟨r,m2⟩
       cases r<;>simp
      ·exact W.2.2 cS
      ·have:=W.1;show P<=300;simp only at this;omega
   ·have hc:=kr B;have hG:eA J (d+1) (left-1)=(some acc,m):=by rw[N,B,aex,Lk];simp
    rw[hG]at S;clear ih V
    repeat' (first|refine pJ ?_|refine ze ?_ ?_|(intro h;first|(cases h;done)|rw[h]|skip)|(refine uA Z ?_ ?_<;>(try (show(_:Nat)*_<=_;dsimp only))))
    ·rw[S];rfl
    ·rw[S]
  all_goals
   have H:left-1<0\/d>24\/T≠2\/A≠0\/s≠[]\/arity p≠J.length:=by
    clear V hf
    first
    |(left;simp_all;done)
    |(right;left;simp_all;done)
    |(right;right;left;simp_all;done)
    |(right;right;right;left;simp_all;done)
    |(right;right;right;right;left;simp_all;done)
    |(right;right;right;right;right;simp_all [bt];done)
   first
   |(show(_:L LV)=_;rw[HD T A p s J d left H];rfl)
   |(show(_:L (Nat×L LV))=_;rw[HD T A p s J d left H,I])
termination_by t=>SizeOf.sizeOf t
decreasing_by
 have:=aee O;simp at this ⊢;omega
end Go.Proofs
namespace Go.Proofs
open Go.cK
mutual
def vQ:∀(n:Nd)(d left:Int)(t:Ty)(m:Int),fZ n d left=(some t,m)->bw t<=bM n
 |.mk T A p s J,d,left,t,m,h=>by
  simp only[fZ]at h;split at h
  ·simp at h
  ·rcases D:eA J (d+1) (left-1)with ⟨b,P⟩
   rw[D]at h;cases b with
   |none=>simp at h
   |some l =>
    simp at h;have:=Aj J (d+1) (left-1) l P D;rw[<- h.1];simp only[bw,bM];omega
def Aj:∀(l:L Nd)(d left:Int)(r:L Ty)(m:Int),eA l d left=(some r,m)->bz r<=aU l
 |[],d,left,r,m,h=>by simp[eA]at h;rw[h.1];simp[bz]
 |x::l,d,left,r,m,h=>by
  simp only[eA]at h;rcases D:fZ x d left with ⟨b,P⟩
  rw[D]at h;cases b with
  |none=>simp at h
  |some t =>
   simp only at h;rcases Y:eA l d P with ⟨W,V⟩
   rw[Y]at h;cases W with
   |none=>simp at h
   |some q =>
    simp at h;have h1:=vQ x d left t P D;have h2:=Aj l d P q V Y;rw[<- h.1];simp only[bz,aU];omega
end
attribute [local irreducible] AK af bg cn fC ey lD fY fZ eA bB
def jm(n:Nd)(B:bM n<=8589934593):ah 67 [aW n] (.eY [dg (aP n).1,.int .i64 (aP n).2]):=by
 have hq:=Cy n 1 300 B bn bn bn bn;rcases C:fZ n 1 300 with ⟨b,m⟩
 rw[C]at hq;have T:=vQ n 1 300;rw[C]at T;cases b with
 |none =>
  have G:aP n=(.mk 0 [],1):=by simp only[aP,C]
  rw[G];simp only[HE,Option.isSome_none]at hq;obtain⟨k,a,p,s,l⟩:=n;refine qn func67 call67 λβ hf=>?_
  repeat' (first|refine pJ ?_|refine zc ?_ ?_|(intro h;first|(cases h;done)|rw[h]|skip)|refine mP ?_ (hq:=hq))
  rfl
 |some t =>
  have Y:=lE t (aeS (T t m Z) B);have G:aP n=if bB t then(t,0)else(.mk 0 [],1):=by simp only[aP,C]
  rw[G];obtain⟨U,us⟩:=t;simp only[HE,Option.isSome_some]at hq;obtain⟨k,a,p,s,l⟩:=n;cases Q:bB (.mk U us)
  all_goals
   rw[Q]at Y;refine qn func67 call67 λβ hf=>?_
   repeat' (first|refine pJ ?_|refine zc ?_ ?_|(intro h;first|(cases h;done)|rw[h]|skip)|refine mP ?_ (hq:=hq)|refine uC Z Y ?_)
   rfl
end Go.Proofs
set_option maxRecDepth 100000
namespace Go.Proofs
open Go.cK
attribute [local irreducible] AK af bg cn
def rM{α:Type}(q:α->α->Bool):List α->List α->Bool
 |[],[]=>true
 |x::l,y::r=>q x y&&rM q l r
 |_,_=>false
def Ak{α:Type}(q:α->α->Bool):∀(l r:List α),l.length≠r.length->rM q l r=false
 |[],[],h=>by simp at h
 |[],_::_,_=>rfl
 |_::_,[],_=>rfl
 |x::l,y::r,h=>by simp[rM,Ak q l r oy]
def Al:∀(l r:L Ty),rM dh l r=gJ l r
 |[],[]=>rfl
 |[],_::_=>rfl
 |_::_,[]=>rfl
 |x::l,y::r=>by simp[rM,gJ,Al l r]
def En:∀(l r:L Nd),rM sH l r=pZ l r
 |[],[]=>rfl
 |[],_::_=>rfl
 |_::_,[]=>rfl
 |x::l,y::r=>by simp[rM,pZ,En l r]
def Eo{α:Type}(q:α->α->Bool){l r:List α}{i:Nat}(h:l.length=r.length)(K:i=l.length):rM q (l.drop i) (r.drop i)=true:=by
 subst K;rw[aex,h,aex];rfl
def qz(l r:L Ty)(q:Ty->Ty->Bool)(f:FuncId)(W:L CV)(V:∀x∈l,∀y∈r,ah f (dg x::dg y::W) (.bool (q x y)))(p:l.length<=1099511627776) :
  ah 84 [.sl 2 (aA l),.sl 2 (aA r),.rR f W] (.bool (rM q l r)):=by
 by_cases E:l.length=r.length
 ·have Y:((((aA l).length:Nat):Int) != (((aA r).length:Nat):Int))=false:=by rw[aZ,aZ,E];simp
  refine qn func84 call84 λβ hf=>?_
  repeat' (first|refine pJ ?_|refine zc ?_ ?_|(intro h;first|(cases h;done)|rw[h]|skip))
  refine AK.eL (α:=Nat) (λi=>i<=l.length/\rM q l r=rM q (l.drop i) (r.drop i)) (λi=>l.length-i)
   (λi=>[(17,.c (.int .i64 i)),(16,.c (.int .i64 (aA l).length)),(15,.c (.sl 2 (aA l))),(1,.c (.sl 2 (aA r))),(2,.c (.rR f W))]) (λ_=>[]) (λ_=>[]) [] 0
   ⟨bn,Z⟩ ce trivial trivial Z Z Z ?_
  rintro i ⟨K,N⟩ ih;rcases iq l i K with ⟨x,O,C⟩|S
  ·have A:=Jg O;obtain⟨y,Q⟩:∃y,r[i]?=some y:=⟨r[i]' rP,cS⟩
   have hq:=V x C y (aaB Q);rw[dZ O,dZ Q]at N;simp only[rM]at N;obtain⟨T,J⟩:=x;obtain⟨U,us⟩:=y
   repeat' (first|refine pJ ?_|refine zc ?_ ?_|(intro h;first|(cases h;done)|rw[h]|skip)|refine uI Z (i) Z (gA O) Z ?_|refine uI Z (i) Z (gA Q) Z ?_|refine uC Z hq ?_)
   ·rw[N];simp_all
   ·refine AK.again (ih (i+1) ⟨bD O,?_⟩ rP) ⟨.inl (gB rP),.inl Z,.inl Z,.inl Z,.inl Z,trivial⟩ trivial trivial Z Z Z;simp_all
  ·have A:=DL S
   repeat' (first|refine pJ ?_|refine zc ?_ ?_|(intro h;first|(cases h;done)|rw[h]|skip))
   rw[N,Eo q E S]
 ·have Y:((((aA l).length:Nat):Int) != (((aA r).length:Nat):Int))=true:=by rw[aZ,aZ];simp;omega
  rw[Ak q l r E];refine qn func84 call84 λβ hf=>?_;exact dq
def vR(l r:L Nd)(q:Nd->Nd->Bool)(f:FuncId)(W:L CV)(V:∀x∈l,∀y∈r,ah f (aW x::aW y::W) (.bool (q x y)))(p:l.length<=1099511627776) :
  ah 136 [.sl 5 (aH l),.sl 5 (aH r),.rR f W] (.bool (rM q l r)):=by
 by_cases E:l.length=r.length
 ·have Y:((((aH l).length:Nat):Int) != (((aH r).length:Nat):Int))=false:=by rw[bt,bt,E];simp
  refine qn func136 call136 λβ hf=>?_
  repeat' (first|refine pJ ?_|refine zc ?_ ?_|(intro h;first|(cases h;done)|rw[h]|skip))
  refine AK.eL (α:=Nat) (λi=>i<=l.length/\rM q l r=rM q (l.drop i) (r.drop i)) (λi=>l.length-i)
   (λi=>[(17,.c (.int .i64 i)),(16,.c (.int .i64 (aH l).length)),(15,.c (.sl 5 (aH l))),(1,.c (.sl 5 (aH r))),(2,.c (.rR f W))]) (λ_=>[]) (λ_=>[]) [] 0
   ⟨bn,Z⟩ ce trivial trivial Z Z Z ?_
  rintro i ⟨K,N⟩ ih;rcases iq l i K with ⟨x,O,C⟩|S
  ·have A:=mT O;obtain⟨y,Q⟩:∃y,r[i]?=some y:=⟨r[i]' rP,cS⟩
   have hq:=V x C y (aaB Q);rw[dZ O,dZ Q]at N;simp only[rM]at N;obtain⟨U,a2,D,P,I⟩:=x;obtain⟨B,T,M,J,H⟩:=y
   repeat' (first|refine pJ ?_|refine zc ?_ ?_|(intro h;first|(cases h;done)|rw[h]|skip)|refine uI Z (i) Z (eO O) Z ?_|refine uI Z (i) Z (eO Q) Z ?_|refine uC Z hq ?_)
   ·rw[N];simp_all
   ·refine AK.again (ih (i+1) ⟨bD O,?_⟩ rP) ⟨.inl (gB rP),.inl Z,.inl Z,.inl Z,.inl Z,trivial⟩ trivial trivial Z Z Z;simp_all
  ·have A:=kr S
   repeat' (first|refine pJ ?_|refine zc ?_ ?_|(intro h;first|(cases h;done)|rw[h]|skip))
   rw[N,Eo q E S]
 ·have Y:((((aH l).length:Nat):Int) != (((aH r).length:Nat):Int))=true:=by rw[bt,bt];simp;omega
  rw[Ak q l r E];refine qn func136 call136 λβ hf=>?_;exact dq
def gU:∀(t u:Ty),bw t<=1099511627776->ah 83 [dg t,dg u] (.bool (dh t u))
 |.mk T J,.mk U us,I=>by
  simp only[bw]at I;have Y:=j9 J;have hq:=qz J us dh 83 [] (λx O y _=>gU x y (by have:=cL O;omega)) bn;rw[Al]at hq;refine qn func83 call83 λβ hf=>?_
  repeat' (first|refine pJ ?_|refine zc ?_ ?_|(intro h;first|(cases h;done)|rw[h]|skip)|refine uC Z hq ?_)
  all_goals simp_all [dh]
termination_by t=>SizeOf.sizeOf t
decreasing_by
 have:=aee O;simp at this ⊢;omega
end Go.Proofs
namespace Go.Proofs
open Go.cK
attribute [local irreducible] AK af bg cn
def jF(r:CR):CV:=if r.2=0 then .eY [.agg [.sl 2 (aA r.1.1),.bool r.1.2],.int .i64 0]else .eY [.agg [.any,.any],.int .i64 r.2]
def vr(r:CR):CV := .eY [.agg [.sl 2 (aA r.1.1),.bool r.1.2],.int .i64 r.2]
def Ll(s:L Ty)(b:Bool):jF ((s,b),0) = .eY [.agg [.sl 2 (aA s),.bool b],.int .i64 0]:=rfl
def aI(s:L Ty):jF (eT s) = .eY [.agg [.sl 2 (aA s),.bool false],.int .i64 0]:=rfl
def aD{e:Int}(h:e≠0):jF (aR e) = .eY [.agg [.any,.any],.int .i64 e]:=by unfold jF aR;rw[if_neg h]
def jM(e:Int):vr (aR e) = .eY [.agg [.sl 2 [],.bool false],.int .i64 e]:=rfl
def ae9{r:CR}:Wk (vr r) (jF r):=by
 unfold vr jF;by_cases h:r.2=0
 ·rw[if_pos h,h];exact Wk.refl _
 ·rw[if_neg h];exact Bu Z Z
def vT:∀(n:Nat)(l:L Ty),(aA l).drop n=aA (l.drop n)
 |0,l=>rfl
 |n+1,[]=>rfl
 |n+1,x::l=>by simp only[aA,afB,vT n l]
def dM(T:Int)(l:L Ty):ah 100 [.int .i64 T,.sl 2 (aA l)] (dg (.mk T l)):=by
 refine qn func100 call100 λβ hf=>?_;exact dw
def cZ(T:Int):ah 100 [.int .i64 T,.sl 0 []] (dg (.mk T [])) :=
 bg.wk C1 (Wk.refl _) (dM T [])
def fu(l:L Ty)(E:l.length<=1099511627776):gT 24 [.v (.c (.sl 2 (aA l)))] [.own 2 (aA l)] []:=by
 cases l with
 |nil =>
  refine en func24 call24 [(0,.c (.sl 2 []))] [] [] [] λβ hf=>?_
  repeat' (first|refine kz ?_|refine ze ?_ ?_|(intro h;first|(cases h;done)|rw[h]|skip)|refine AK.qA Z ?_ ?_|(refine uA Z ?_ ?_<;>(try (show(_:Nat)*_<=_;dsimp only))))
  all_goals first|exact Z|(show _<=_;decide)
 |cons x l =>
  have h1:=aZ l;simp only[aac]at E;refine en func24 call24 [(0,.c (.sl 2 (dg x::aA l)))] [] [] [] λβ hf=>?_
  repeat' (first|refine kz ?_|refine ze ?_ ?_|(intro h;first|(cases h;done)|rw[h]|skip)|refine AK.qA Z ?_ ?_|(refine uA Z ?_ ?_<;>(try (show(_:Nat)*_<=_;dsimp only))))
  all_goals first|exact Z|(show _<=_;simp only[aac,aad];omega)
def bE(s l:L Ty)(Y:s.length<=20000000000:=by first|omega|(simp only[aac,aad]at *;omega))(E:l.length<=20000000000:=by simp):ah 71 [.sl 2 (aA s),.sl 2 (aA l)] (jF (eT (l++s))):=by
 rw[aI,kR];have h1:=fu l bn;have h2:=aZ l;have V:=aZ s;refine qn func71 call71 λβ hf=>?_;exact dw
def ke(s:L Ty)(Y:s.length<=20000000000:=by first|omega|(simp only[aac,aad]at *;omega)):ah 71 [.sl 2 (aA s),.sl 0 []] (jF (eT s)) :=
 bg.wk C1 (Wk.refl _) (bE s [] Y cS)
def vU(a b:L Ty)(ha:rJ a)(E:a.length<=20000000000):ah 51 [.sl 2 (aA a),.sl 2 (aA b)] (.bool (gJ a b)):=by
 have h1:=qz a b dh 83 [] (λx O y _=>gU x y (by have:=(ha x O).2;omega)) bn;rw[Al]at h1;refine qn func51 call51 λβ hf=>?_;exact dw
def jn(a b:CR)(ha:rJ a.1.1)(E:a.1.1.length<=20000000000):ah 112
  [.agg [.sl 2 (aA a.1.1),.bool a.1.2],.int .i64 a.2,.agg [.sl 2 (aA b.1.1),.bool b.1.2],.int .i64 b.2] (vr (di a b)):=by
 have h1:=vU a.1.1 b.1.1 ha E;obtain⟨⟨s,p⟩,e⟩:=a;obtain⟨⟨t,q⟩,f⟩:=b;simp only at h1 ha E ⊢;unfold di;dsimp only;by_cases S:e≠0
 ·rw[if_pos S,jM];have I:(e != 0)=true:=by simpa using S
  clear h1;refine qn func112 call112 λβ hf=>?_;exact dw
 rw[if_neg S];obtain rfl:e=0:=by simpa using S
 by_cases Y:f≠0
 ·rw[if_pos Y,jM];have I:(f != 0)=true:=by simpa using Y
  clear h1;refine qn func112 call112 λβ hf=>?_;exact dw
 rw[if_neg Y];obtain rfl:f=0:=by simpa using Y
 cases p with
 |true =>
  rw[if_pos rfl];clear h1;refine qn func112 call112 λβ hf=>?_;exact dw
 |false =>
 rw[if_neg bT];cases q with
 |true =>
  rw[if_pos (.inl Z)];clear h1;refine qn func112 call112 λβ hf=>?_;exact dw
 |false =>
 cases G:gJ s t with
 |true =>
  rw[if_pos (.inr Z)];rw[G]at h1;refine qn func112 call112 λβ hf=>?_;exact dw
 |false =>
  rw[if_neg cS,jM];rw[G]at h1;refine qn func112 call112 λβ hf=>?_;exact dw
def gR:L Ty->L Int->Bool
 |_,[]=>true
 |[],_::_=>false
 |t::s,k::l=>(decide (k=0)||decide (bS t=k))&&gR s l
def bZ(T:Int)(us s:L Ty)(k:Int)(l:L Int):gR (.mk T us::s) (k::l)=((decide (k=0)||decide (T=k))&&gR s l):=rfl
def b8(k:Int)(l:L Int):gR [] (k::l)=false:=rfl
def zd(l:L CV)(n:Int)(h:n<((l.length:Nat):Int)):decide (((l.length:Nat):Int)>n)=true:=aak h
def HG:∀(s:L Ty)(l:L Int),s.length<l.length->gR s l=false
 |_,[],h=>by simp at h
 |[],_::_,_=>rfl
 |t::s,k::l,h=>by simp only[gR,HG s l oy,Bool.and_false]
def aas{s:L Ty}{l:L Int}{t:Ty}{k:Int}{i:Nat}(h1:s[i]?=some t)(h2:l[i]?=some k):gR (s.drop i) (l.drop i)=((decide (k=0)||decide (bS t=k))&&gR (s.drop (i+1)) (l.drop (i+1))):=by
 rw[dZ h1,dZ h2];rfl
def aY(s:L Ty):gR s []=true:=by cases s<;>rfl
def aq(s:L Ty)(l:L Int)(U:s.length<=10000000000:=by first|omega|(simp only[aac,aad]at *;omega))(E:l.length<=10000000000:=by decide):ah 111 [.sl 2 (aA s),.sl 1 (eJ l)] (.bool (gR s l)):=by
 have Y:=aZ s;have W:(eJ l).length=l.length:=by simp[eJ]
 by_cases A:s.length<l.length
 ·rw[HG s l A];have P:decide ((((aA s).length:Nat):Int)<(((eJ l).length:Nat):Int))=true:=aak (by rw[Y,W];omega);refine qn func111 call111 λβ hf=>?_;exact dw
 have P:decide ((((aA s).length:Nat):Int)<(((eJ l).length:Nat):Int))=false:=aap (by rw[Y,W];omega);refine qn func111 call111 λβ hf=>?_
 repeat' (first|refine kz ?_|refine zc ?_ ?_|(intro h;first|(cases h;done)|rw[h]|skip))
 refine AK.eL (α:=Nat) (λi=>i<=l.length/\gR s l=gR (s.drop i) (l.drop i)) (λi=>l.length-i)
  (λi=>[(14,.c (.int .i64 i)),(13,.c (.int .i64 (eJ l).length)),(12,.c (.sl 1 (eJ l))),(0,.c (.sl 2 (aA s)))]) (λ_=>[]) (λ_=>[]) [] 0
  ⟨bn,Z⟩ ce trivial trivial Z Z Z ?_
 rintro i ⟨K,N⟩ ih;rcases iq l i K with ⟨k,D,C⟩|S
 ·have A:=X2 D;have h2:=bD D;obtain⟨t,I⟩:∃t,s[i]?=some t:=⟨s[i]' bn,cS⟩
  rw[aas I D]at N;obtain⟨T,us⟩:=t;by_cases M:k=0
  ·subst M;rw[aak Z,Bool.true_or,aeR]at N
   repeat' (first|refine kz ?_|refine zc ?_ ?_|(intro h;first|(cases h;done)|rw[h]|skip)|refine uI Z (i) Z (ints_at D) Z ?_|refine uI Z (i) Z (gA I) Z ?_)
   refine AK.again (ih (i+1) ⟨h2,N⟩ bn) ⟨.inl (gB bn),.inl Z,.inl Z,.inl Z,trivial⟩ trivial trivial Z Z Z
  have q:(k != 0)=true:=by simpa using M
  by_cases V:T=k
  ·have G:(T != k)=false:=by simpa using V
   rw[aak (show bS (.mk T us)=k from V),Bool.or_true,aeR]at N
   repeat' (first|refine kz ?_|refine zc ?_ ?_|(intro h;first|(cases h;done)|rw[h]|skip)|refine uI Z (i) Z (ints_at D) Z ?_|refine uI Z (i) Z (gA I) Z ?_)
   refine AK.again (ih (i+1) ⟨h2,N⟩ bn) ⟨.inl (gB bn),.inl Z,.inl Z,.inl Z,trivial⟩ trivial trivial Z Z Z
  ·have G:(T != k)=true:=by simpa using V
   rw[aap (show ¬bS (.mk T us)=k from V),aap M,Bool.or_false,aez]at N;rw[N];clear ih;have O:=ints_at D;have J:=gA I;exact dw
 ·have A:=UH S;have Q:gR s l=true:=by rw[N,S,aex,aY]
  rw[Q];clear ih;exact dw
end Go.Proofs
namespace Go.cK
def xM(w a:Nat):(BitVec.ofInt w (a:Int)).toNat=a%2^w:=by
 rw[BitVec.ofInt_natCast,BitVec.toNat_ofNat]
def Ra{a:Nat}(h:a<9223372036854775808)(k:Nat)(D:k<63):i64.wrap (((BitVec.ofInt 64 (a:Int))&&&(BitVec.ofInt 64 ((2^k-1:Nat):Int))).toNat)=((a%2^k:Nat):Int):=by
 have h2:(2:Nat)^k<=2^62:=ahe bn bn;have V:0<(2:Nat)^k:=Nat.pow_pos bn;rw[BitVec.toNat_and,xM,xM,agw (show a<2^64 by omega),agw (show 2^k-1<2^64 by omega),ahq];have S:a%2^k<2^k:=Nat.mod_lt _ V;exact iy bn bn
def Lm{a:Nat}(h:a<9223372036854775808):i64.wrap (((BitVec.ofInt 64 (a:Int))&&&(BitVec.ofInt 64 63)).toNat)=((a%64:Nat):Int):=Ra h 6 (by omega)
def UI{a:Nat}(h:a<9223372036854775808):i64.wrap (((BitVec.ofInt 64 (a:Int))&&&(BitVec.ofInt 64 127)).toNat)=((a%128:Nat):Int):=Ra h 7 (by omega)
def OM{a:Nat}(h:a<256):IntKind.u8.wrap (a:Int)=a:=by
 have:=oD (a:Int);rw[jy a h]at this;exact this.symm
def aat:∀c:Fin 128,IntKind.u8.wrap (((BitVec.ofInt 8 ((c.val:Nat):Int))|||(BitVec.ofInt 8 128)).toNat)=((c.val+128:Nat):Int):=by decide +kernel
def acq{c:Nat}(h:c<128):IntKind.u8.wrap (((BitVec.ofInt 8 (c:Int))|||(BitVec.ofInt 8 128)).toNat)=((c+128:Nat):Int):=aat ⟨c,h⟩
def X3:∀x:Fin 64,IntKind.u8.wrap (((BitVec.ofInt 8 64)|||(BitVec.ofInt 8 ((x.val:Nat):Int))).toNat)=((64+x.val:Nat):Int):=by decide +kernel
def or_none:∀x:Fin 64,IntKind.u8.wrap (((BitVec.ofInt 8 0)|||(BitVec.ofInt 8 ((x.val:Nat):Int))).toNat)=((0+x.val:Nat):Int):=by decide +kernel
def SO:∀c:Fin 256,(i64.wrap (((BitVec.ofInt 64 ((c.val:Nat):Int))&&&(BitVec.ofInt 64 64)).toNat) != 0)=decide (c.val/64%2=1):=by decide +kernel
def UJ{c:Nat}(h:c<256):(i64.wrap (((BitVec.ofInt 64 (c:Int))&&&(BitVec.ofInt 64 64)).toNat) != 0)=decide (c/64%2=1):=SO ⟨c,h⟩
def UK{n x N:Nat}(B:n<2^N)(O:x<128)(Y:N<=55):i64.wrap (((BitVec.ofInt 64 (n:Int))|||(BitVec.ofInt 64 (i64.wrap ((x:Int)*2^(min N 64))))).toNat)=((n+x*2^N:Nat):Int):=by
 have h2:(2:Nat)^N<=2^55:=ahe bn Y;have V:x*2^N<=127*2^55:=Nat.mul_le_mul bn h2;have e:(x:Int)*2^(min N 64)=((x*2^N:Nat):Int):=by
  rw[ahs bn];simp
 rw[e,iy (n:=((x*2^N:Nat):Int)) bn bn,BitVec.toNat_or,xM,xM,agw (show n<2^64 by omega),agw (show x*2^N<2^64 by omega)];rw[Nat.or_comm,<- Nat.shiftLeft_eq,<- Nat.shiftLeft_add_eq_or_of_lt B x,Nat.shiftLeft_eq,Nat.add_comm];exact iy bn bn
def DM(a k:Nat):(a:Int).fdiv (2^k)=((a/2^k:Nat):Int):=by
 rw[agF _ (by exact Int.le_of_lt (Int.pow_pos bn))];simp
end Go.cK
namespace Go.Proofs
open Go.cK
attribute [local irreducible] AK af bg cn aP
def Jh(p:Int):ah 66 [.int .i64 p] (.str (gC p)):=by
 refine qn func66 call66 λβ hf=>?_
 repeat' (first|refine kz ?_|refine zc ?_ ?_|(intro h;first|(cases h;done)|rw[h]|skip))
 all_goals
  clear hf;refine Wk.of_eq (aeb CV.str ?_);unfold gC;simp_all
def four(a:Int):a=3\/a=4\/a=5\/((a==3)=false/\(a==4)=false/\(a==5)=false):=by grind
def ON(p a b:Int)(Y:p=69\/p=70\/p=71\/p=72):ah 113 [.int .i64 p,.int .i64 a,.int .i64 b] (.int .i64 (oq p a b)):=by
 rcases Y with rfl|rfl|rfl|rfl<;>rcases four a with rfl|rfl|rfl|⟨U,a2,D⟩<;>rcases four b with rfl|rfl|rfl|⟨S,q,B⟩
 all_goals
  refine qn func113 call113 λβ hf=>?_
  repeat' (first|refine kz ?_|refine zc ?_ ?_|(intro h;first|(cases h;done)|rw[h]|skip))
  all_goals
   clear hf;refine Wk.of_eq (aeb (CV.int .i64) ?_);unfold oq;simp_all
def GP(l:L Nd)(p:Nd->Bool)(f:FuncId)(W:L CV)(U:∀x∈l,ah f (aW x::W) (.bool (p x)))(K:l.length<=1099511627776) :
  ah 117 [.sl 5 (aH l),.rR f W] (.int .i64 (idxOf p l)):=by
 refine qn func117 call117 λβ hf=>?_;refine AK.OO hX mixed 300 Z ?_;refine AK.eL (α:=Nat) (λi=>i<=l.length/\∀(j:Nat) x,j<i->l[j]?=some x->p x=false) (λi=>l.length-i)
  (λi=>[(8,.c (.int .i64 i)),(7,.c (.int .i64 (aH l).length)),(0,.c (.sl 5 (aH l))),(1,.c (.rR f W))]) (λ_=>[]) (λ_=>[]) [] 0
  ⟨bn,by intro j x h;omega⟩ ce trivial trivial Z Z Z ?_
 rintro i ⟨I,H⟩ ih;rcases iq l i I with ⟨x,O,C⟩|S
 ·have A:=mT O;have hq:=U x C;have h2:=bD O;cases Q:p x with
  |true =>
   rw[Q]at hq;rw[vW p l i x O Q H];obtain⟨u,T,P,N,M⟩:=x;clear ih;have D:=eO O;exact dw
  |false =>
   rw[Q]at hq
   have J:=ih (i+1) ⟨bn,λj y B Y=>by
    by_cases V:j=i
    ·subst V;rw[O]at Y;simp at Y;subst Y;exact Q
    ·exact H j y bn Y⟩ bn
   obtain⟨u,T,P,N,M⟩:=x
   repeat' (first|refine kz ?_|refine zc ?_ ?_|(intro h;first|(cases h;done)|rw[h]|skip)|refine uI Z (i) Z (eO O) Z ?_|refine uC Z hq ?_)
   refine AK.again J ⟨.inl ?_,.inl Z,.inl Z,.inl Z,trivial⟩ trivial trivial Z Z Z;rw[iy bn bn];rfl
 ·have A:=kr S
  have E:idxOf p l = -1:=zf p l (λj y G=>by
   have:=bD G
   exact H j y bn G)
  rw[E];clear ih;exact dw
def Bv(l:L Nd)(p:Nd->Bool)(f:FuncId)(W:L CV)(Y:∀x∈l,ah f (aW x::W) (.bool (p x)))(K:l.length<=1099511627776) :
  ah 85 [.sl 5 (aH l),.rR f W] (.bool (l.any p)):=by
 refine qn func85 call85 λβ hf=>?_
 repeat' (first|refine kz ?_|refine uC Z (GP l p f W Y K) ?_)
 all_goals exact Wk.of_eq (aeb CV.bool (Bw p l))
def Er:∀(l:L Nd),jN l=l.any Ln
 |[]=>rfl
 |x::l=>by simp only[jN,agR,Er l]
def vX(l:L Nd)(E:aU l<=1099511627776):ah 52 [.sl 5 (aH l)] (.bool (jN l)):=by
 have V:∀x∈l,ah 86 [aW x] (.bool (Ln x)):=by
  rintro⟨k,n,p,s,xs⟩ hx;have T:=eX hx;simp only[bM]at T;have W:=vX xs bn;unfold Ln;by_cases D:k=2
  ·subst D;by_cases Y:p=84
   ·subst Y;rw[aak ⟨Z,Z⟩];refine qn func86 call86 λβ hf=>?_;exact dw
   ·rw[aap (λh=>Y h.2)];have I:(p==84)=false:=by simpa using Y
    refine qn func86 call86 λβ hf=>?_;exact dw
  ·rw[aap (λh=>D h.1)];have I:(k==2)=false:=by simpa using D
   refine qn func86 call86 λβ hf=>?_;exact dw
 have K:=gG l;have h1:=Bv l Ln 86 [] V bn;rw[<- Er]at h1;refine qn func52 call52 λβ hf=>?_;exact dw
termination_by SizeOf.sizeOf l
decreasing_by
 have:=aee hx;simp at this ⊢;omega
end Go.Proofs
namespace Go.Proofs
open Go.cK
attribute [local irreducible] AK af bg cn aP
def OP{p:Int}{w:UInt8}(h:w∈gC p):w=110\/w=99\/w=116\/w=118:=by
 unfold gC at h
 repeat' (split at h)
 all_goals simp at h
 all_goals (try (rcases h with h|h|h))
 all_goals (try (rcases h with h|h))
 all_goals (try subst h)
 all_goals simp
def UL(l:L Nd)(acc:L Ty):jO [] l acc=some acc:=by unfold jO;rfl
def aau(p:L UInt8)(T N P:Int)(S:L UInt8)(xs l:L Nd)(acc:L Ty):jO (110::p) (.mk T N P S xs::l) acc=if T=0/\0<=N/\N<=40 then jO p l acc else none:=by
 conv=>lhs;unfold jO
 rw[if_pos rfl]
def aav(p:L UInt8)(T N P:Int)(S:L UInt8)(xs l:L Nd)(acc:L Ty):jO (99::p) (.mk T N P S xs::l) acc=if T=3 then jO p l acc else none:=by
 conv=>lhs;unfold jO
 rw[if_neg bT,if_pos rfl]
def aaw(p:L UInt8)(T N P:Int)(S:L UInt8)(xs l:L Nd)(acc:L Ty):jO (116::p) (.mk T N P S xs::l) acc=if(aP (.mk T N P S xs)).2=0 then jO p l (acc++[(aP (.mk T N P S xs)).1])else none:=by
 conv=>lhs;unfold jO
 rw[if_neg bT,if_neg bT,if_pos rfl]
def aax(p:L UInt8)(T N P:Int)(S:L UInt8)(xs l:L Nd)(acc:L Ty):jO (118::p) (.mk T N P S xs::l) acc=jO p l acc:=by
 conv=>lhs;unfold jO
 rw[if_neg bT,if_neg bT,if_neg bT]
def X4:Option (L Ty)->CV
 |some l => .eY [.sl 2 (aA l),.bool true]
 |none => .eY [.sl 2 [],.bool false]
def Lo(T N P:Int)(S:L UInt8)(J:L Nd)(hn:aU J<=8589934593):ah 48 [aW (.mk T N P S J)] (X4 (bW P J)):=by
 have h1:=Jh P;have Rb:=gG J;have G:=bt J;unfold bW;by_cases M:P<40
 ·rw[if_pos (.inl M)];have e1:decide (P<40)=true:=aak M;refine qn func48 call48 λβ hf=>?_;exact dw
 have e1:decide (P<40)=false:=aap M;by_cases c2:J.length≠(gC P).length
 ·rw[if_pos (.inr c2)];have E:((((aH J).length:Nat):Int) != (((gC P).length:Nat):Int))=true:=by rw[G];simp;omega
  refine qn func48 call48 λβ hf=>?_;exact dw
 rw[if_neg bn];have p:J.length=(gC P).length:=by omega
 have E:((((aH J).length:Nat):Int) != (((gC P).length:Nat):Int))=false:=by rw[G];simp;omega
 have W:=λw h => @OP P w h;generalize gC P=V at h1 p E W ⊢;refine qn func48 call48 λβ hf=>?_
 repeat' (first|refine kz ?_|refine zc ?_ ?_|(intro h;first|(cases h;done)|rw[h]|skip)|refine uC Z h1 ?_|(refine uA Z ?_ ?_<;>(try (show(_:Nat)*_<=_;dsimp only))))
 refine AK.fV [] [(6000,(0,none))] (env':=[(27,.c (.int .i64 (0:Nat))),(26,.c (.int .i64 (aH J).length)),(25,.c (.sl 5 (aH J))),(4,.c (.str V)),(5,.own (.tok 6000 0) 2 [])])
  (bs':=[]) (ts':=[(6000,0)]) (us':=[6000])
  ce  trivial Z ?_
 refine AK.eL (α:=Nat×L Ty) (λz=>z.1<=J.length/\z.2.length<=z.1/\jO V J []=jO (V.drop z.1) (J.drop z.1) z.2) (λz=>J.length-z.1)
  (λz=>[(27,.c (.int .i64 z.1)),(26,.c (.int .i64 (aH J).length)),(25,.c (.sl 5 (aH J))),(4,.c (.str V)),(5,.own (.tok 6000 0) 2 (aA z.2))]) (λ_=>[]) (λ_=>[(6000,0)]) [6000] (0,[])
  ⟨bn,cS,Z⟩ ce trivial ⟨Z,trivial⟩ Z Z Z ?_
 rintro⟨i,acc⟩ ⟨D,El,q⟩ ih;simp only at D El q;rcases iq J i D with ⟨x,O,hm⟩|B
 ·have hc:=mT O;have h2:=bD O;obtain⟨w,Y⟩:∃w,V[i]?=some w:=⟨V[i]' bn,cS⟩
  have Lp:=W w (aaB Y);have hxs:=eX hm;have Q:=jm x bn;rw[dZ O,dZ Y]at q;obtain⟨u,A,k3,k4,k5⟩:=x;rcases Lp with rfl|rfl|rfl|rfl
  ·have K:((((110:UInt8).toNat:Nat):Int)==110)=true:=rfl;rw[aau]at q;by_cases g1:u=0;rotate_left
   ·rw[if_neg (λh=>g1 h.1)]at q;rw[q];have H:(u != 0)=true:=by simpa using g1
    clear ih q
    repeat' (first|refine kz ?_|refine zc ?_ ?_|(intro h;first|(cases h;done)|rw[h]|skip)|refine uI Z (i) Z (eO O) Z ?_|refine af.mG hX kn Z Z Z Z Z Z Z (m:=i) Z Y ?_|(refine uA Z ?_ ?_<;>(try (show(_:Nat)*_<=_;dsimp only))))
    all_goals exact xN
   subst g1;by_cases C:A<0
   ·rw[if_neg (λh=>by omega)]at q;rw[q];have H:decide (A<0)=true:=aak C;clear ih q
    repeat' (first|refine kz ?_|refine zc ?_ ?_|(intro h;first|(cases h;done)|rw[h]|skip)|refine uI Z (i) Z (eO O) Z ?_|refine af.mG hX kn Z Z Z Z Z Z Z (m:=i) Z Y ?_|(refine uA Z ?_ ?_<;>(try (show(_:Nat)*_<=_;dsimp only))))
    all_goals exact xN
   have g4:decide (A<0)=false:=aap C;by_cases g5:A>40
   ·rw[if_neg (λh=>by omega)]at q;rw[q];have H:decide (A>40)=true:=aak g5;clear ih q
    repeat' (first|refine kz ?_|refine zc ?_ ?_|(intro h;first|(cases h;done)|rw[h]|skip)|refine uI Z (i) Z (eO O) Z ?_|refine af.mG hX kn Z Z Z Z Z Z Z (m:=i) Z Y ?_|(refine uA Z ?_ ?_<;>(try (show(_:Nat)*_<=_;dsimp only))))
    all_goals exact xN
   have g6:decide (A>40)=false:=aap g5;rw[if_pos ⟨Z,bn,bn⟩]at q
   repeat' (first|refine kz ?_|refine zc ?_ ?_|(intro h;first|(cases h;done)|rw[h]|skip)|refine uI Z (i) Z (eO O) Z ?_|refine af.mG hX kn Z Z Z Z Z Z Z (m:=i) Z Y ?_|(refine uA Z ?_ ?_<;>(try (show(_:Nat)*_<=_;dsimp only))))
   refine AK.again (ih (i+1,acc) ⟨h2,acm,q⟩ fo) ⟨.inl (gB (i:=i) bn),.inl Z,.inl Z,.inl Z,.inl Z,trivial⟩ trivial ⟨Z,trivial⟩ Z Z Z
  ·have K:((((99:UInt8).toNat:Nat):Int)==110)=false:=rfl;have f2:((((99:UInt8).toNat:Nat):Int)==99)=true:=rfl;rw[aav]at q;by_cases g1:u=3;rotate_left
   ·rw[if_neg g1]at q;rw[q];have H:(u != 3)=true:=by simpa using g1
    clear ih q
    repeat' (first|refine kz ?_|refine zc ?_ ?_|(intro h;first|(cases h;done)|rw[h]|skip)|refine uI Z (i) Z (eO O) Z ?_|refine af.mG hX kn Z Z Z Z Z Z Z (m:=i) Z Y ?_|(refine uA Z ?_ ?_<;>(try (show(_:Nat)*_<=_;dsimp only))))
    all_goals exact xN
   subst g1;rw[if_pos rfl]at q
   repeat' (first|refine kz ?_|refine zc ?_ ?_|(intro h;first|(cases h;done)|rw[h]|skip)|refine uI Z (i) Z (eO O) Z ?_|refine af.mG hX kn Z Z Z Z Z Z Z (m:=i) Z Y ?_|(refine uA Z ?_ ?_<;>(try (show(_:Nat)*_<=_;dsimp only))))
   refine AK.again (ih (i+1,acc) ⟨h2,acm,q⟩ fo) ⟨.inl (gB (i:=i) bn),.inl Z,.inl Z,.inl Z,.inl Z,trivial⟩ trivial ⟨Z,trivial⟩ Z Z Z
  ·have K:((((116:UInt8).toNat:Nat):Int)==110)=false:=rfl;have f2:((((116:UInt8).toNat:Nat):Int)==99)=false:=rfl;have f3:((((116:UInt8).toNat:Nat):Int)==116)=true:=rfl;rw[aaw]at q;rcases hr:aP (.mk u A k3 k4 k5)with ⟨⟨U,us⟩,e⟩
   rw[hr]at Q q;simp only at Q q;by_cases g1:e=0;rotate_left
   ·rw[if_neg g1]at q;rw[q];have H:(e != 0)=true:=by simpa using g1
    clear ih q
    repeat' (first|refine kz ?_|refine zc ?_ ?_|(intro h;first|(cases h;done)|rw[h]|skip)|refine uI Z (i) Z (eO O) Z ?_|refine af.mG hX kn Z Z Z Z Z Z Z (m:=i) Z Y ?_|refine uC Z Q ?_|(refine uA Z ?_ ?_<;>(try (show(_:Nat)*_<=_;dsimp only))))
    all_goals exact xN
   subst g1;rw[if_pos rfl]at q
   repeat' (first|refine kz ?_|refine zc ?_ ?_|(intro h;first|(cases h;done)|rw[h]|skip)|refine uI Z (i) Z (eO O) Z ?_|refine af.mG hX kn Z Z Z Z Z Z Z (m:=i) Z Y ?_|refine uC Z Q ?_|(refine uA Z ?_ ?_<;>(try (show(_:Nat)*_<=_;dsimp only))))
   ·have h1:=aZ acc;simp only[aac,aad];omega
   ·have I:aA acc++[dg (.mk U us)]=aA (acc++[Ty.mk U us]):=(kR acc [_]).symm;refine AK.fV [] [(6000,(0,some 6000))] (env':=[(27,.c (.int .i64 ((i+1:Nat):Int))),(26,.c (.int .i64 (aH J).length)),(25,.c (.sl 5 (aH J))),(4,.c (.str V)),(5,.own (.tok 6000 0) 2 (aA (acc++[Ty.mk U us])))])
     (bs':=[]) (ts':=[(6000,0)]) (us':=[6000])
     ⟨⟨_,Z,.inl (ku (i:=i) bn)⟩,⟨_,Z,.inl Z⟩,⟨_,Z,.inl Z⟩,⟨_,Z,.inl Z⟩,⟨_,Z,⟨_,Z,.inr ⟨_,_,Z,Z,aeb (AV.own (.tok 6000 1) 2) I⟩⟩⟩,trivial⟩ trivial Z ?_
    exact ih (i+1,acc++[Ty.mk U us]) ⟨h2,ob,q⟩ fo
  ·have K:((((118:UInt8).toNat:Nat):Int)==110)=false:=rfl;have f2:((((118:UInt8).toNat:Nat):Int)==99)=false:=rfl;have f3:((((118:UInt8).toNat:Nat):Int)==116)=false:=rfl;rw[aax]at q
   repeat' (first|refine kz ?_|refine zc ?_ ?_|(intro h;first|(cases h;done)|rw[h]|skip)|refine uI Z (i) Z (eO O) Z ?_|refine af.mG hX kn Z Z Z Z Z Z Z (m:=i) Z Y ?_|(refine uA Z ?_ ?_<;>(try (show(_:Nat)*_<=_;dsimp only))))
   refine AK.again (ih (i+1,acc) ⟨h2,acm,q⟩ fo) ⟨.inl (gB (i:=i) bn),.inl Z,.inl Z,.inl Z,.inl Z,trivial⟩ trivial ⟨Z,trivial⟩ Z Z Z
 ·have hc:=kr B;have h0:jO V J []=some acc:=by
   rw[q,B,aex,p,aex];exact UL _ _
  rw[h0];clear ih q;exact dw
end Go.Proofs
