/- What kind.good and kind.Good, and goodType and GoodType of touchstoner -/
import Derived.Test.YtdnpapgijbhofaaGreatDoorKind5
import Derived.Test.YtdnpapgijbhofaaGreatDoorTPure
open Go.IntKind
open Go.Proofs.Tryz
set_option linter.defProp false
set_option maxHeartbeats 0
set_option linter.unusedVariables false
set_option linter.unusedSimpArgs false
set_option maxRecDepth 100000
namespace Go.Proofs
open Go.cM
def A9{J:L Ty}{x:Ty}(h:J[0]?=some x):jE J=fq x:=by
 cases J with
 |nil=>simp at h
 |cons y l=>simp at h;subst h;rfl
def OX(T:Int)(J:L Ty)(d n:Int)(D:¬(d>24\/n+1>300\/arity T≠J.length)) :
  eF (.mk T J) d n=((dJ J (d+1) (n+1)).1&&(if T=13\/T=15 then jE J else true),(dJ J (d+1) (n+1)).2):=by
 simp only[eF,if_neg D];rcases dJ J (d+1) (n+1)with ⟨b,m⟩
 cases b<;>rfl
def JM(d m:Int):dJ [] d m=(true,m):=rfl
def GV(T:Int)(J:L Ty)(d n:Int)(D:d>24\/n+1>300\/arity T≠J.length):eF (.mk T J) d n=(false,n+1):=by
 simp only[eF,if_pos D]
def GW(t:Ty)(l:L Ty)(d n:Int):dJ (t::l) d n=if(eF t d n).1 then dJ l d (eF t d n).2 else(false,(eF t d n).2):=by
 simp only[dJ];rcases eF t d n with ⟨b,m⟩
 cases b<;>rfl
attribute [local irreducible] AK ah aZ cx eF dJ jE fq
def Ba:∀(t:Ty)(d n:Int),bw t<=8589934593->0<=d->d<=1099511627776-bw t->0<=n->n<=300 ->
  fA 79 [.v (.c (er t)),.v (.c (.int .i64 d)),.box [.c (.int .i64 n)]] [.c (.bool (eF t d n).1)] [(2,[.c (.int .i64 (eF t d n).2)])]
 |.mk T J=>by
  intro d n B JN A q hn;simp only[bw]at B A;have JI:=gV J;have E:∀x∈J,∀m:Int,0<=m->m<=300->fA 79 [.v (.c (er x)),.v (.c (.int .i64 (i64.wrap (d+1)))),.box [.c (.int .i64 m)]] [.c (.bool (eF x (d+1) m).1)] [(2,[.c (.int .i64 (eF x (d+1) m).2)])]:=by
   intro x I m p h1;have:=cA I;rw[gF bn bn];exact Ba x (d+1) m bn bn bn p h1
  have C:i64.wrap (n+1)=n+1:=gF bn bn;refine en func79 call79 [(0,.c (er (.mk T J))),(1,.c (.int .i64 d)),(2,.ptr 1002000 0)] [(1002000,[.c (.int .i64 n)])] [] [1002000] λβ hf=>?_
  repeat' (first|refine pe ?_|refine ze ?_ ?_|(intro h;first|(cases h;done)|rw[h]|skip)|refine uC Z (sM T) ?_)
  rotate_left 6
  ·refine AK.eX (α:=Nat×Int) (λz=>z.1<=J.length/\dJ J (d+1) (n+1)=dJ (J.drop z.1) (d+1) z.2/\0<=z.2/\z.2<=300) (λz=>J.length-z.1)
    (λz=>[(34,.c (.int .i64 z.1)),(33,.c (.int .i64 (au J).length)),(32,.c (.sl 2 (au J))),(1,.c (.int .i64 d)),(2,.ptr 1002000 0),(3,.ptr 3 0)])
    (λz=>[(3,[.c (.int .i64 T),.c (.sl 2 (au J))]),(1002000,[.c (.int .i64 z.2)])]) (λ_=>[]) [3,1002000] (0,n+1)
    ⟨bn,Z,bn,?_⟩ ce ⟨Z,Zb (λk=>some [AV.c (CV.int .i64 k)]) C,trivial⟩ trivial Z Z Z ?_
   ·simp_all
   rintro⟨i,m⟩ ⟨K,Y,V,O⟩ ih;simp only at K Y V O;have H:¬(d>24\/n+1>300\/arity T≠J.length):=by
    rename_i g1 g2;simp only[abE,C,abC,bne_eq_false_iff_eq,aR]at g1 g2 h;rintro(N|N|N)
    ·omega
    ·omega
    ·exact N h
   have Q:=OX T J d n H;rcases gr J i K with ⟨x,I,S⟩|u
   ·have hc:=Bb I;have hq:=E x S m V O;have D:=qp x (d+1) m O;rw[eG I]at Y;rw[GW]at Y;obtain⟨U,us⟩:=x
    repeat' (first|refine pe ?_|refine ze ?_ ?_|(intro h;first|(cases h;done)|rw[h]|skip)|refine uI Z (i) Z (fB I) Z ?_|refine jT ?_ (hq:=hq))
    ·have hf:(eF (.mk U us) (d+1) m).1=false:=by simpa using h
     rw[hf]at Y;rw[Q,Y];rfl
    ·have hf:(eF (.mk U us) (d+1) m).1=false:=by simpa using h
     rw[hf]at Y;rw[Q,Y];rfl
    ·have hf:(eF (.mk U us) (d+1) m).1=true:=by simpa using h
     rw[hf]at Y;refine AK.again (ih (i+1,(eF (.mk U us) (d+1) m).2) ⟨bQ I,Y,bn,D.2.2 hf⟩ T1)
      ⟨.inl (iS VC),.inl Z,.inl Z,.inl Z,.inl Z,.inl Z,trivial⟩ ⟨Z,Z,trivial⟩ trivial Z Z Z
   ·have hc:=wM u;have hG:dJ J (d+1) (n+1)=(true,m):=by rw[Y,u,Zx,JM]
    rw[hG]at Q;by_cases M:T=13\/T=15
    ·obtain⟨G,W⟩:∃x,J[0]?=some x:=by
      have h1:arity T>=1:=by rcases M with rfl|rfl<;>decide
      have h2:0<J.length:=by simp only[not_or,ne_eq,aaK]at H;omega
      exact⟨J[0],by simp[h2]⟩
     have X8:=jU G (by have:=cA (aaA W);omega);rw[if_pos M,A9 W]at Q;clear ih E;obtain⟨U,us⟩:=G
     repeat' (first|refine pe ?_|refine ze ?_ ?_|(intro h;first|(cases h;done)|rw[h]|skip)|refine uI Z (0) Z (fB W) Z ?_|refine uC Z X8 ?_)
     all_goals first
      |(show(_:L LV)=_;rw[Q];first|rfl|(simp;done)|(exfalso;simp_all;done))
      |(show(_:L (Nat×L LV))=_;rw[Q];done)
      |(show(_:L (Nat×L LV))=_;rw[Q];rfl)
      |(exfalso;clear hf Q Y;simp_all;done)
    ·rw[if_neg M]at Q;clear ih E
     repeat' (first|refine pe ?_|refine ze ?_ ?_|(intro h;first|(cases h;done)|rw[h]|skip))
     all_goals first
      |(show(_:L LV)=_;rw[Q];first|rfl|(simp;done)|(exfalso;simp_all;done))
      |(show(_:L (Nat×L LV))=_;rw[Q];done)
      |(show(_:L (Nat×L LV))=_;rw[Q];rfl)
      |(exfalso;clear hf Q Y;simp_all;done)
  all_goals
   have P:d>24\/n+1>300\/arity T≠J.length:=by
    clear E hf
    first
    |(left;simp_all;done)
    |(right;left;simp_all;done)
    |(right;right;simp_all [aR];done)
   first
   |(show(_:L LV)=_;rw[GV T J d n P])
   |(show(_:L (Nat×L LV))=_;rw[GV T J d n P,C])
termination_by t=>SizeOf.sizeOf t
decreasing_by
 have:=Zp I;simp at this ⊢;omega
end Go.Proofs
namespace Go.Proofs
open Go.cM
def DP(P Y p:Int)(s:L UInt8)(J:L Nd)(d left:Int)(h:left-1<0\/d>24\/P≠2\/Y≠0\/s≠[]\/arity p≠J.length):fj (.mk P Y p s J) d left=(none,left-1):=by
 simp only[fj,if_pos h]
def Nn(P Y p:Int)(s:L UInt8)(J:L Nd)(d left:Int)(h:¬(left-1<0\/d>24\/P≠2\/Y≠0\/s≠[]\/arity p≠J.length)) :
  fj (.mk P Y p s J) d left=((dK J (d+1) (left-1)).1.map (.mk p),(dK J (d+1) (left-1)).2):=by
 simp only[fj,if_neg h];rcases dK J (d+1) (left-1)with ⟨b,m⟩
 cases b<;>rfl
def GX(d m:Int):dK [] d m=(some [],m):=rfl
def E1(t:Nd)(l:L Nd)(d n:Int):dK (t::l) d n=match (fj t d n).1 with
  |some y=>((dK l d (fj t d n).2).1.map (y :: ·),(dK l d (fj t d n).2).2)
  |none=>(none,(fj t d n).2):=by
 simp only[dK];rcases fj t d n with ⟨b,m⟩
 cases b with
 |none=>rfl
 |some y =>
  simp only;rcases dK l d m with ⟨r,Y⟩
  cases r<;>rfl
def eo{l:L Nd}{i:Nat}{x:Nd}(h:l[i]?=some x):(aG l)[i]?=some (aY x):=by rw[Bc,h];rfl
def lE{l:L Nd}{i:Nat}{x:Nd}(h:l[i]?=some x):decide (((i:Nat):Int)<(((aG l).length:Nat):Int))=true:=dec_lt (by have:=bQ h;rw[bq];omega)
def js{l:L Nd}{i:Nat}(h:i=l.length):decide (((i:Nat):Int)<(((aG l).length:Nat):Int))=false:=E2 (by rw[bq];omega)
def jj:∀(a:L Ty)(b:L Ty),au (a++b)=au a++au b
 |[],b=>rfl
 |t::a,b=>by simp[au,jj a b]
def kE:∀(a:L Nd)(b:L Nd),aG (a++b)=aG a++aG b
 |[],b=>rfl
 |t::a,b=>by simp[aG,kE a b]
def jV{i:Nat}(h:i<1099511627776):AV.c (CV.int .i64 (i64.wrap ((i:Int)+1)))=AV.c (CV.int .i64 ((i+1:Nat):Int)):=by
 rw[gF bn bn];rfl
def DQ:Option Ty->Ty
 |some t=>t
 |none => .mk 0 []
attribute [local irreducible] AK ah aZ cx eF dJ jE fq fj dK
def mu(t:Ty)(I:bw t<=8589934593):aj 58 [er t] (.bool (br t)):=by
 have hq:=Ba t 1 0 I bn bn bn bn;obtain⟨T,J⟩:=t;refine qn func58 call58 λβ hf=>?_
 repeat' (first|refine pe ?_|refine jT ?_ (hq:=hq))
 rfl
def zx:∀(n:Nd)(d left:Int),bZ n<=8589934593->0<=d->d<=1099511627776-bZ n->0<=left->left<=300 ->
  fA 142 [.v (.c (aY n)),.v (.c (.int .i64 d)),.box [.c (.int .i64 left)]] [.c (er (DQ (fj n d left).1)),.c (.bool (fj n d left).1.isSome)] [(2,[.c (.int .i64 (fj n d left).2)])]
 |.mk P V p s J=>by
  intro d left G JN B A hn;simp only[bZ]at G B;have JI:=gu J;have E:∀x∈J,∀m:Int,0<=m->m<=300->fA 142 [.v (.c (aY x)),.v (.c (.int .i64 (i64.wrap (d+1)))),.box [.c (.int .i64 m)]] [.c (er (DQ (fj x (d+1) m).1)),.c (.bool (fj x (d+1) m).1.isSome)] [(2,[.c (.int .i64 (fj x (d+1) m).2)])]:=by
   intro x I m q h1;have:=eM I;rw[gF bn bn];exact zx x (d+1) m bn bn bn q h1
  have C:i64.wrap (left-1)=left-1:=gF bn bn;refine en func142 call142 [(0,.c (aY (.mk P V p s J))),(1,.c (.int .i64 d)),(2,.ptr 1002000 0)] [(1002000,[.c (.int .i64 left)])] [] [1002000] λβ hf=>?_
  repeat' (first|refine pe ?_|refine ze ?_ ?_|(intro h;first|(cases h;done)|rw[h]|skip)|refine uC Z (sM p) ?_|(refine uA Z ?_ ?_<;>(try (show(_:Nat)*_<=_;dsimp only))))
  rotate_left 12
  ·refine AK.fL [(6,6),(8,8),(1002000,1002000)] [(8000,(0,none))] (env':=[(57,.c (.int .i64 (0:Nat))),(56,.c (.int .i64 (aG J).length)),(55,.c (.sl 5 (aG J))),(1,.c (.int .i64 d)),(2,.ptr 1002000 0),(6,.ptr 6 0),(8,.ptr 8 0)])
    (bs':=[(6,[.c (.int .i64 0),.own .exact 2 []]),(8,[.c (.int .i64 p),.own (.tok 8000 0) 2 []]),(1002000,[.c (.int .i64 (left-1))])]) (ts':=[(8000,0)]) (us':=[6,8,1002000,8000])
    ce 
    ⟨ce,ce,⟨_,_,Z,Z,⟨_,_,Z,.inl (Zb (λk=>AV.c (.int .i64 k)) C),Z⟩⟩,trivial⟩ Z ?_
   refine AK.eX (α:=Nat×L Ty×Int) (λz=>z.1<=J.length/\z.1=z.2.1.length/\dK J (d+1) (left-1)=((dK (J.drop z.1) (d+1) z.2.2).1.map (z.2.1 ++ ·),(dK (J.drop z.1) (d+1) z.2.2).2)/\0<=z.2.2/\z.2.2<=300) (λz=>J.length-z.1)
    (λz=>[(57,.c (.int .i64 z.1)),(56,.c (.int .i64 (aG J).length)),(55,.c (.sl 5 (aG J))),(1,.c (.int .i64 d)),(2,.ptr 1002000 0),(6,.ptr 6 0),(8,.ptr 8 0)])
    (λz=>[(6,[.c (.int .i64 0),.own .exact 2 []]),(8,[.c (.int .i64 p),.own (.tok 8000 0) 2 (au z.2.1)]),(1002000,[.c (.int .i64 z.2.2)])]) (λ_=>[(8000,0)]) [6,8,1002000,8000] (0,[],left-1)
    ⟨bn,Z,ek,?_,by show left-1<=300;omega⟩ ce ⟨Z,Z,Z,trivial⟩ ⟨Z,trivial⟩ Z Z Z ?_
   ·have:¬(left-1<0):=by simp_all
    show 0<=left-1;omega
   rintro⟨i,acc,m⟩ ⟨K,N,Y,W,H⟩ ih;simp only at K N Y W H;have hk:¬(left-1<0\/d>24\/P≠2\/V≠0\/s≠[]\/arity p≠J.length):=by
    clear ih E hf;simp_all [bq]
   have Q:=Nn P V p s J d left hk;rcases gr J i K with ⟨x,I,T⟩|u
   ·have hc:=lE I;have hq:=E x T m W H;have D:=DR x (d+1) m W;rw[eG I,E1]at Y;rcases hr:fj x (d+1) m with ⟨b,O⟩
    rw[hr]at hq D Y;obtain⟨xk,xn,xp,xs,xa⟩:=x;cases b with
    |none =>
     simp only[DQ,Option.isSome_none]at hq Y
     repeat' (first|refine pe ?_|refine ze ?_ ?_|(intro h;first|(cases h;done)|rw[h]|skip)|refine uI Z (i) Z (eo I) Z ?_|refine jT ?_ (hq:=hq)|(refine uA Z ?_ ?_<;>(try (show(_:Nat)*_<=_;dsimp only))))
     ·rw[Q,Y];rfl
     ·rw[Q,Y]
    |some y =>
     obtain⟨U,us⟩:=y;simp only[DQ,Option.isSome_some]at hq Y
     repeat' (first|refine pe ?_|refine ze ?_ ?_|(intro h;first|(cases h;done)|rw[h]|skip)|refine uI Z (i) Z (eo I) Z ?_|refine jT ?_ (hq:=hq)|(refine uA Z ?_ ?_<;>(try (show(_:Nat)*_<=_;dsimp only))))
     ·have h1:=aR acc;have h2:=bQ I;simp only[aac,aad];omega
     ·have M:au acc++[er (.mk U us)]=au (acc++[Ty.mk U us]):=(jj acc [.mk U us]).symm;refine AK.fL [(6,6),(8,8),(1002000,1002000)] [(8000,(0,some 8000))] (env':=[(57,.c (.int .i64 ((i+1:Nat):Int))),(56,.c (.int .i64 (aG J).length)),(55,.c (.sl 5 (aG J))),(1,.c (.int .i64 d)),(2,.ptr 1002000 0),(6,.ptr 6 0),(8,.ptr 8 0)])
       (bs':=[(6,[.c (.int .i64 0),.own .exact 2 []]),(8,[.c (.int .i64 p),.own (.tok 8000 0) 2 (au (acc++[Ty.mk U us]))]),(1002000,[.c (.int .i64 O)])]) (ts':=[(8000,0)]) (us':=[6,8,1002000,8000])
       ⟨⟨_,Z,.inl (jV (i:=i) VC)⟩,⟨_,Z,.inl Z⟩,⟨_,Z,.inl Z⟩,⟨_,Z,.inl Z⟩,⟨_,Z,⟨_,Z,Z⟩⟩,⟨_,Z,⟨_,Z,Z⟩⟩,⟨_,Z,⟨_,Z,Z⟩⟩,trivial⟩
       ⟨ce,⟨_,_,Z,Z,⟨_,_,Z,.inl Z,⟨_,_,Z,⟨_,Z,.inr ⟨_,_,Z,Z,Zb (AV.own (.tok 8000 1) 2) M⟩⟩,Z⟩⟩⟩,ce,trivial⟩ Z ?_
      refine ih (i+1,acc++[Ty.mk U us],O) ⟨bQ I,by simp[N],?_,?_,?_⟩ T1
      ·show dK J (d+1) (left-1)=_;rw[Y];rcases dK (List.drop (i+1) J) (d+1) O with ⟨r,m2⟩
       cases r<;>simp
      ·exact D.2.2 ek
      ·have:=D.1;show O<=300;simp only at this;omega
   ·have hc:=js u;have hG:dK J (d+1) (left-1)=(some acc,m):=by rw[Y,u,Zx,GX];simp
    rw[hG]at Q;clear ih E
    repeat' (first|refine pe ?_|refine ze ?_ ?_|(intro h;first|(cases h;done)|rw[h]|skip)|(refine uA Z ?_ ?_<;>(try (show(_:Nat)*_<=_;dsimp only))))
    ·rw[Q];rfl
    ·rw[Q]
  all_goals
   have S:left-1<0\/d>24\/P≠2\/V≠0\/s≠[]\/arity p≠J.length:=by
    clear E hf
    first
    |(left;simp_all;done)
    |(right;left;simp_all;done)
    |(right;right;left;simp_all;done)
    |(right;right;right;left;simp_all;done)
    |(right;right;right;right;left;simp_all;done)
    |(right;right;right;right;right;simp_all [bq];done)
   first
   |(show(_:L LV)=_;rw[DP P V p s J d left S];rfl)
   |(show(_:L (Nat×L LV))=_;rw[DP P V p s J d left S,C])
termination_by t=>SizeOf.sizeOf t
decreasing_by
 have:=Zp I;simp at this ⊢;omega
end Go.Proofs
namespace Go.Proofs
open Go.cM
mutual
def sN:∀(n:Nd)(d left:Int)(t:Ty)(m:Int),fj n d left=(some t,m)->bw t<=bZ n
 |.mk P W p s J,d,left,t,m,h=>by
  simp only[fj]at h;split at h
  ·simp at h
  ·rcases D:dK J (d+1) (left-1)with ⟨b,Y⟩
   rw[D]at h;cases b with
   |none=>simp at h
   |some l =>
    simp at h;have:=wN J (d+1) (left-1) l Y D;rw[<- h.1];simp only[bw,bZ];omega
def wN:∀(l:L Nd)(d left:Int)(r:L Ty)(m:Int),dK l d left=(some r,m)->bg r<=aS l
 |[],d,left,r,m,h=>by simp[dK]at h;rw[h.1];simp[bg]
 |x::l,d,left,r,m,h=>by
  simp only[dK]at h;rcases D:fj x d left with ⟨b,Y⟩
  rw[D]at h;cases b with
  |none=>simp at h
  |some t =>
   simp only at h;rcases u:dK l d Y with ⟨B,V⟩
   rw[u]at h;cases B with
   |none=>simp at h
   |some q =>
    simp at h;have h1:=sN x d left t Y D;have h2:=wN l d Y q V u;rw[<- h.1];simp only[bg,aS];omega
end
attribute [local irreducible] AK ah aZ cx eF dJ jE fq fj dK br
def jF(n:Nd)(K:bZ n<=8589934593):aj 117 [aY n] (.gb [er (aW n).1,.int .i64 (aW n).2]):=by
 have hq:=zx n 1 300 K bn bn bn bn;rcases E:fj n 1 300 with ⟨b,m⟩
 rw[E]at hq;have J:=sN n 1 300;rw[E]at J;cases b with
 |none =>
  have B:aW n=(.mk 0 [],1):=by simp only[aW,E]
  rw[B];simp only[DQ,Option.isSome_none]at hq;obtain⟨k,a,p,s,l⟩:=n;refine qn func117 call117 λβ hf=>?_
  repeat' (first|refine pe ?_|refine zc ?_ ?_|(intro h;first|(cases h;done)|rw[h]|skip)|refine jT ?_ (hq:=hq))
  rfl
 |some t =>
  have N:=mu t (aaG (J t m Z) K);have B:aW n=if br t then(t,0)else(.mk 0 [],1):=by simp only[aW,E]
  rw[B];obtain⟨U,us⟩:=t;simp only[DQ,Option.isSome_some]at hq;obtain⟨k,a,p,s,l⟩:=n;cases A:br (.mk U us)
  all_goals
   rw[A]at N;refine qn func117 call117 λβ hf=>?_
   repeat' (first|refine pe ?_|refine zc ?_ ?_|(intro h;first|(cases h;done)|rw[h]|skip)|refine jT ?_ (hq:=hq)|refine uC Z N ?_)
   rfl
end Go.Proofs
namespace Go.Proofs
open Go.cM
attribute [local irreducible] AK ah aZ cx
def De{α:Type}(q:α->α->Bool):List α->List α->Bool
 |[],[]=>true
 |x::l,y::r=>q x y&&De q l r
 |_,_=>false
def GY{α:Type}(q:α->α->Bool):∀(l r:List α),l.length≠r.length->De q l r=false
 |[],[],h=>by simp at h
 |[],_::_,_=>rfl
 |_::_,[],_=>rfl
 |x::l,y::r,h=>by simp[De,GY q l r q6]
def Be:∀(l r:L Ty),De cP l r=gG l r
 |[],[]=>rfl
 |[],_::_=>rfl
 |_::_,[]=>rfl
 |x::l,y::r=>by simp[De,gG,Be l r]
def OY{α:Type}(q:α->α->Bool){l r:List α}{i:Nat}(h:l.length=r.length)(K:i=l.length):De q (l.drop i) (r.drop i)=true:=by
 subst K;rw[Zx,h,Zx];rfl
def sO(l r:L Ty)(q:Ty->Ty->Bool)(f:FuncId)(A:L CV)(Q:∀x∈l,∀y∈r,aj f (er x::er y::A) (.bool (q x y)))(V:l.length<=1099511627776) :
  aj 71 [.sl 2 (au l),.sl 2 (au r),.sH f A] (.bool (De q l r)):=by
 by_cases B:l.length=r.length
 ·have W:((((au l).length:Nat):Int) != (((au r).length:Nat):Int))=false:=by rw[aR,aR,B];simp
  refine qn func71 call71 λβ hf=>?_
  repeat' (first|refine pe ?_|refine zc ?_ ?_|(intro h;first|(cases h;done)|rw[h]|skip))
  refine AK.eX (α:=Nat) (λi=>i<=l.length/\De q l r=De q (l.drop i) (r.drop i)) (λi=>l.length-i)
   (λi=>[(17,.c (.int .i64 i)),(16,.c (.int .i64 (au l).length)),(15,.c (.sl 2 (au l))),(1,.c (.sl 2 (au r))),(2,.c (.sH f A))]) (λ_=>[]) (λ_=>[]) [] 0
   ⟨bn,Z⟩ ce trivial trivial Z Z Z ?_
  rintro i ⟨K,Y⟩ ih;rcases gr l i K with ⟨x,I,P⟩|S
  ·have p:=Bb I;obtain⟨y,J⟩:∃y,r[i]?=some y:=⟨r[i]' VC,ek⟩
   have hq:=Q x P y (aaA J);rw[eG I,eG J]at Y;simp only[De]at Y;obtain⟨T,D⟩:=x;obtain⟨U,us⟩:=y
   repeat' (first|refine pe ?_|refine zc ?_ ?_|(intro h;first|(cases h;done)|rw[h]|skip)|refine uI Z (i) Z (fB I) Z ?_|refine uI Z (i) Z (fB J) Z ?_|refine uC Z hq ?_)
   ·rw[Y];simp_all
   ·refine AK.again (ih (i+1) ⟨bQ I,?_⟩ VC) ⟨.inl (iS VC),.inl Z,.inl Z,.inl Z,.inl Z,trivial⟩ trivial trivial Z Z Z;simp_all
  ·have p:=wM S
   repeat' (first|refine pe ?_|refine zc ?_ ?_|(intro h;first|(cases h;done)|rw[h]|skip))
   rw[Y,OY q B S]
 ·have W:((((au l).length:Nat):Int) != (((au r).length:Nat):Int))=true:=by rw[aR,aR];simp;omega
  rw[GY q l r B];refine qn func71 call71 λβ hf=>?_;exact dq
def gD:∀(t u:Ty),bw t<=1099511627776->aj 50 [er t,er u] (.bool (cP t u))
 |.mk T J,.mk U us,M=>by
  simp only[bw]at M;have Y:=gV J;have hq:=sO J us cP 50 [] (λx I y _=>gD x y (by have:=cA I;omega)) bn;rw[Be]at hq;refine qn func50 call50 λβ hf=>?_
  repeat' (first|refine pe ?_|refine zc ?_ ?_|(intro h;first|(cases h;done)|rw[h]|skip)|refine uC Z hq ?_)
  all_goals simp_all [cP]
termination_by t=>SizeOf.sizeOf t
decreasing_by
 have:=Zp I;simp at this ⊢;omega
end Go.Proofs
namespace Go.Proofs
open Go.cM
attribute [local irreducible] AK ah aZ cx
def iu(r:CR):CV:=if r.2=0 then .gb [.agg [.sl 2 (au r.1.1),.bool r.1.2],.int .i64 0]else .gb [.agg [.any,.any],.int .i64 r.2]
def sq(r:CR):CV := .gb [.agg [.sl 2 (au r.1.1),.bool r.1.2],.int .i64 r.2]
def GZ(s:L Ty)(b:Bool):iu ((s,b),0) = .gb [.agg [.sl 2 (au s),.bool b],.int .i64 0]:=rfl
def aF(s:L Ty):iu (dX s) = .gb [.agg [.sl 2 (au s),.bool false],.int .i64 0]:=rfl
def aA{e:Int}(h:e≠0):iu (aM e) = .gb [.agg [.any,.any],.int .i64 e]:=by unfold iu aM;rw[if_neg h]
def iA(e:Int):sq (aM e) = .gb [.agg [.sl 2 [],.bool false],.int .i64 e]:=rfl
def YL{r:CR}:Wk (sq r) (iu r):=by
 unfold sq iu;by_cases h:r.2=0
 ·rw[if_pos h,h];exact Wk.refl _
 ·rw[if_neg h];exact ye Z Z
def sP:∀(n:Nat)(l:L Ty),(au l).drop n=au (l.drop n)
 |0,l=>rfl
 |n+1,[]=>rfl
 |n+1,x::l=>by simp only[au,acm,sP n l]
def dz(T:Int)(l:L Ty):aj 69 [.int .i64 T,.sl 2 (au l)] (er (.mk T l)):=by
 refine qn func69 call69 λβ hf=>?_;exact dw
def cK(T:Int):aj 69 [.int .i64 T,.sl 0 []] (er (.mk T [])) :=
 aZ.wk C1 (Wk.refl _) (dz T [])
def eB(l:L Ty)(B:l.length<=1099511627776):fA 60 [.v (.c (.sl 2 (au l)))] [.own 2 (au l)] []:=by
 cases l with
 |nil =>
  refine en func60 call60 [(0,.c (.sl 2 []))] [] [] [] λβ hf=>?_
  repeat' (first|refine qU ?_|refine ze ?_ ?_|(intro h;first|(cases h;done)|rw[h]|skip)|refine AK.oh Z ?_ ?_|(refine uA Z ?_ ?_<;>(try (show(_:Nat)*_<=_;dsimp only))))
  all_goals first|exact Z|(show _<=_;decide)
 |cons x l =>
  have h1:=aR l;simp only[aac]at B;refine en func60 call60 [(0,.c (.sl 2 (er x::au l)))] [] [] [] λβ hf=>?_
  repeat' (first|refine qU ?_|refine ze ?_ ?_|(intro h;first|(cases h;done)|rw[h]|skip)|refine AK.oh Z ?_ ?_|(refine uA Z ?_ ?_<;>(try (show(_:Nat)*_<=_;dsimp only))))
  all_goals first|exact Z|(show _<=_;simp only[aac,aad];omega)
def bA(s l:L Ty)(V:s.length<=20000000000:=by first|omega|(simp only[aac,aad]at *;omega))(B:l.length<=20000000000:=by simp):aj 124 [.sl 2 (au s),.sl 2 (au l)] (iu (dX (l++s))):=by
 rw[aF,jj];have h1:=eB l bn;have h2:=aR l;have K:=aR s;refine qn func124 call124 λβ hf=>?_;exact dw
def iM(s:L Ty)(V:s.length<=20000000000:=by first|omega|(simp only[aac,aad]at *;omega)):aj 124 [.sl 2 (au s),.sl 0 []] (iu (dX s)) :=
 aZ.wk C1 (Wk.refl _) (bA s [] V ek)
def zy(a b:L Ty)(W:pz a)(B:a.length<=20000000000):aj 70 [.sl 2 (au a),.sl 2 (au b)] (.bool (gG a b)):=by
 have h1:=sO a b cP 50 [] (λx I y _=>gD x y (by have:=(W x I).2;omega)) bn;rw[Be]at h1;refine qn func70 call70 λβ hf=>?_;exact dw
def gW(a b:CR)(W:pz a.1.1)(B:a.1.1.length<=20000000000):aj 150
  [.agg [.sl 2 (au a.1.1),.bool a.1.2],.int .i64 a.2,.agg [.sl 2 (au b.1.1),.bool b.1.2],.int .i64 b.2] (sq (cR a b)):=by
 have h1:=zy a.1.1 b.1.1 W B;obtain⟨⟨s,p⟩,e⟩:=a;obtain⟨⟨t,q⟩,f⟩:=b;simp only at h1 W B ⊢;unfold cR;dsimp only;by_cases S:e≠0
 ·rw[if_pos S,iA];have C:(e != 0)=true:=by simpa using S
  clear h1;refine qn func150 call150 λβ hf=>?_;exact dw
 rw[if_neg S];obtain rfl:e=0:=by simpa using S
 by_cases Y:f≠0
 ·rw[if_pos Y,iA];have C:(f != 0)=true:=by simpa using Y
  clear h1;refine qn func150 call150 λβ hf=>?_;exact dw
 rw[if_neg Y];obtain rfl:f=0:=by simpa using Y
 cases p with
 |true =>
  rw[if_pos rfl];clear h1;refine qn func150 call150 λβ hf=>?_;exact dw
 |false =>
 rw[if_neg cc];cases q with
 |true =>
  rw[if_pos (.inl Z)];clear h1;refine qn func150 call150 λβ hf=>?_;exact dw
 |false =>
 cases V:gG s t with
 |true =>
  rw[if_pos (.inr Z)];rw[V]at h1;refine qn func150 call150 λβ hf=>?_;exact dw
 |false =>
  rw[if_neg ek,iA];rw[V]at h1;refine qn func150 call150 λβ hf=>?_;exact dw
def fN:L Ty->L Int->Bool
 |_,[]=>true
 |[],_::_=>false
 |t::s,k::l=>(decide (k=0)||decide (bM t=k))&&fN s l
def bR(T:Int)(us s:L Ty)(k:Int)(l:L Int):fN (.mk T us::s) (k::l)=((decide (k=0)||decide (T=k))&&fN s l):=rfl
def bS(k:Int)(l:L Int):fN [] (k::l)=false:=rfl
def vH(l:L CV)(n:Int)(h:n<((l.length:Nat):Int)):decide (((l.length:Nat):Int)>n)=true:=aaw h
def DS:∀(s:L Ty)(l:L Int),s.length<l.length->fN s l=false
 |_,[],h=>by simp at h
 |[],_::_,_=>rfl
 |t::s,k::l,h=>by simp only[fN,DS s l q6,Bool.and_false]
def Up{s:L Ty}{l:L Int}{t:Ty}{k:Int}{i:Nat}(h1:s[i]?=some t)(h2:l[i]?=some k):fN (s.drop i) (l.drop i)=((decide (k=0)||decide (bM t=k))&&fN (s.drop (i+1)) (l.drop (i+1))):=by
 rw[eG h1,eG h2];rfl
def aU(s:L Ty):fN s []=true:=by cases s<;>rfl
def ai(s:L Ty)(l:L Int)(Q:s.length<=10000000000:=by first|omega|(simp only[aac,aad]at *;omega))(B:l.length<=10000000000:=by decide):aj 149 [.sl 2 (au s),.sl 1 (jW l)] (.bool (fN s l)):=by
 have V:=aR s;have W:(jW l).length=l.length:=by simp[jW]
 by_cases A:s.length<l.length
 ·rw[DS s l A];have C:decide ((((au s).length:Nat):Int)<(((jW l).length:Nat):Int))=true:=aaw (by rw[V,W];omega);refine qn func149 call149 λβ hf=>?_;exact dw
 have C:decide ((((au s).length:Nat):Int)<(((jW l).length:Nat):Int))=false:=aax (by rw[V,W];omega);refine qn func149 call149 λβ hf=>?_
 repeat' (first|refine qU ?_|refine zc ?_ ?_|(intro h;first|(cases h;done)|rw[h]|skip))
 refine AK.eX (α:=Nat) (λi=>i<=l.length/\fN s l=fN (s.drop i) (l.drop i)) (λi=>l.length-i)
  (λi=>[(14,.c (.int .i64 i)),(13,.c (.int .i64 (jW l).length)),(12,.c (.sl 1 (jW l))),(0,.c (.sl 2 (au s)))]) (λ_=>[]) (λ_=>[]) [] 0
  ⟨bn,Z⟩ ce trivial trivial Z Z Z ?_
 rintro i ⟨K,Y⟩ ih;rcases gr l i K with ⟨k,D,P⟩|u
 ·have A:=Sa D;have h2:=bQ D;obtain⟨t,I⟩:∃t,s[i]?=some t:=⟨s[i]' bn,ek⟩
  rw[Up I D]at Y;obtain⟨T,us⟩:=t;by_cases S:k=0
  ·subst S;rw[aaw Z,Bool.true_or,aaI]at Y
   repeat' (first|refine qU ?_|refine zc ?_ ?_|(intro h;first|(cases h;done)|rw[h]|skip)|refine uI Z (i) Z (ints_at D) Z ?_|refine uI Z (i) Z (fB I) Z ?_)
   refine AK.again (ih (i+1) ⟨h2,Y⟩ bn) ⟨.inl (iS bn),.inl Z,.inl Z,.inl Z,trivial⟩ trivial trivial Z Z Z
  have q:(k != 0)=true:=by simpa using S
  by_cases N:T=k
  ·have U:(T != k)=false:=by simpa using N
   rw[aaw (show bM (.mk T us)=k from N),Bool.or_true,aaI]at Y
   repeat' (first|refine qU ?_|refine zc ?_ ?_|(intro h;first|(cases h;done)|rw[h]|skip)|refine uI Z (i) Z (ints_at D) Z ?_|refine uI Z (i) Z (fB I) Z ?_)
   refine AK.again (ih (i+1) ⟨h2,Y⟩ bn) ⟨.inl (iS bn),.inl Z,.inl Z,.inl Z,trivial⟩ trivial trivial Z Z Z
  ·have U:(T != k)=true:=by simpa using N
   rw[aax (show ¬bM (.mk T us)=k from N),aax S,Bool.or_false,aaH]at Y;rw[Y];clear ih;have O:=ints_at D;have M:=fB I;exact dw
 ·have A:=OZ u;have p:fN s l=true:=by rw[Y,u,Zx,aU]
  rw[p];clear ih;exact dw
end Go.Proofs
namespace Go.cM
def uj(w a:Nat):(BitVec.ofInt w (a:Int)).toNat=a%2^w:=by
 rw[BitVec.ofInt_natCast,BitVec.toNat_ofNat]
def LX{a:Nat}(h:a<9223372036854775808)(k:Nat)(D:k<63):i64.wrap (((BitVec.ofInt 64 (a:Int))&&&(BitVec.ofInt 64 ((2^k-1:Nat):Int))).toNat)=((a%2^k:Nat):Int):=by
 have h2:(2:Nat)^k<=2^62:=aci bn bn;have K:0<(2:Nat)^k:=Nat.pow_pos bn;rw[BitVec.toNat_and,uj,uj,abK (show a<2^64 by omega),abK (show 2^k-1<2^64 by omega),acv];have W:a%2^k<2^k:=Nat.mod_lt _ K;exact gF bn bn
def G0{a:Nat}(h:a<9223372036854775808):i64.wrap (((BitVec.ofInt 64 (a:Int))&&&(BitVec.ofInt 64 63)).toNat)=((a%64:Nat):Int):=LX h 6 (by omega)
def O0{a:Nat}(h:a<9223372036854775808):i64.wrap (((BitVec.ofInt 64 (a:Int))&&&(BitVec.ofInt 64 127)).toNat)=((a%128:Nat):Int):=LX h 7 (by omega)
def JP{a:Nat}(h:a<256):IntKind.u8.wrap (a:Int)=a:=by
 have:=mw (a:Int);rw[hM a h]at this;exact this.symm
def Uq:∀c:Fin 128,IntKind.u8.wrap (((BitVec.ofInt 8 ((c.val:Nat):Int))|||(BitVec.ofInt 8 128)).toNat)=((c.val+128:Nat):Int):=by decide +kernel
def Wd{c:Nat}(h:c<128):IntKind.u8.wrap (((BitVec.ofInt 8 (c:Int))|||(BitVec.ofInt 8 128)).toNat)=((c+128:Nat):Int):=Uq ⟨c,h⟩
def Sb:∀x:Fin 64,IntKind.u8.wrap (((BitVec.ofInt 8 64)|||(BitVec.ofInt 8 ((x.val:Nat):Int))).toNat)=((64+x.val:Nat):Int):=by decide +kernel
def or_none:∀x:Fin 64,IntKind.u8.wrap (((BitVec.ofInt 8 0)|||(BitVec.ofInt 8 ((x.val:Nat):Int))).toNat)=((0+x.val:Nat):Int):=by decide +kernel
def No:∀c:Fin 256,(i64.wrap (((BitVec.ofInt 64 ((c.val:Nat):Int))&&&(BitVec.ofInt 64 64)).toNat) != 0)=decide (c.val/64%2=1):=by decide +kernel
def O1{c:Nat}(h:c<256):(i64.wrap (((BitVec.ofInt 64 (c:Int))&&&(BitVec.ofInt 64 64)).toNat) != 0)=decide (c/64%2=1):=No ⟨c,h⟩
def O2{n x p:Nat}(E:n<2^p)(I:x<128)(V:p<=55):i64.wrap (((BitVec.ofInt 64 (n:Int))|||(BitVec.ofInt 64 (i64.wrap ((x:Int)*2^(min p 64))))).toNat)=((n+x*2^p:Nat):Int):=by
 have h2:(2:Nat)^p<=2^55:=aci bn V;have K:x*2^p<=127*2^55:=Nat.mul_le_mul bn h2;have e:(x:Int)*2^(min p 64)=((x*2^p:Nat):Int):=by
  rw[acz bn];simp
 rw[e,gF (n:=((x*2^p:Nat):Int)) bn bn,BitVec.toNat_or,uj,uj,abK (show n<2^64 by omega),abK (show x*2^p<2^64 by omega)];rw[Nat.or_comm,<- Nat.shiftLeft_eq,<- Nat.shiftLeft_add_eq_or_of_lt E x,Nat.shiftLeft_eq,Nat.add_comm];exact gF bn bn
def AF(a k:Nat):(a:Int).fdiv (2^k)=((a/2^k:Nat):Int):=by
 rw[abQ _ (by exact Int.le_of_lt (Int.pow_pos bn))];simp
end Go.cM
namespace Go.Proofs
open Go.cM
attribute [local irreducible] AK ah aZ cx aW
def E3(p:Int):aj 121 [.int .i64 p] (.str (fG p)):=by
 refine qn func121 call121 λβ hf=>?_
 repeat' (first|refine qU ?_|refine zc ?_ ?_|(intro h;first|(cases h;done)|rw[h]|skip))
 all_goals
  clear hf;refine Wk.of_eq (Zb CV.str ?_);unfold fG;simp_all
def four(a:Int):a=3\/a=4\/a=5\/((a==3)=false/\(a==4)=false/\(a==5)=false):=by grind
def JQ(p a b:Int)(q:p=69\/p=70\/p=71\/p=72):aj 151 [.int .i64 p,.int .i64 a,.int .i64 b] (.int .i64 (mg p a b)):=by
 rcases q with rfl|rfl|rfl|rfl<;>rcases four a with rfl|rfl|rfl|⟨Y,G,D⟩<;>rcases four b with rfl|rfl|rfl|⟨M,B,J⟩
 all_goals
  refine qn func151 call151 λβ hf=>?_
  repeat' (first|refine qU ?_|refine zc ?_ ?_|(intro h;first|(cases h;done)|rw[h]|skip))
  all_goals
   clear hf;refine Wk.of_eq (Zb (CV.int .i64) ?_);unfold mg;simp_all
def Df(l:L Nd)(p:Nd->Bool)(f:FuncId)(A:L CV)(q:∀x∈l,aj f (aY x::A) (.bool (p x)))(U:l.length<=1099511627776) :
  aj 114 [.sl 5 (aG l),.sH f A] (.int .i64 (idxOf p l)):=by
 refine qn func114 call114 λβ hf=>?_;refine AK.JR hX mixed 300 Z ?_;refine AK.eX (α:=Nat) (λi=>i<=l.length/\∀(j:Nat) x,j<i->l[j]?=some x->p x=false) (λi=>l.length-i)
  (λi=>[(8,.c (.int .i64 i)),(7,.c (.int .i64 (aG l).length)),(0,.c (.sl 5 (aG l))),(1,.c (.sH f A))]) (λ_=>[]) (λ_=>[]) [] 0
  ⟨bn,by intro j x h;omega⟩ ce trivial trivial Z Z Z ?_
 rintro i ⟨K,J⟩ ih;rcases gr l i K with ⟨x,I,S⟩|u
 ·have Q:=lE I;have hq:=q x S;have h2:=bQ I;cases Y:p x with
  |true =>
   rw[Y]at hq;rw[sS p l i x I Y J];obtain⟨C,P,D,O,N⟩:=x;clear ih;have G:=eo I;exact dw
  |false =>
   rw[Y]at hq
   have M:=ih (i+1) ⟨bn,λj y E W=>by
    by_cases V:j=i
    ·subst V;rw[I]at W;simp at W;subst W;exact Y
    ·exact J j y bn W⟩ bn
   obtain⟨C,P,D,O,N⟩:=x
   repeat' (first|refine qU ?_|refine zc ?_ ?_|(intro h;first|(cases h;done)|rw[h]|skip)|refine uI Z (i) Z (eo I) Z ?_|refine uC Z hq ?_)
   refine AK.again M ⟨.inl ?_,.inl Z,.inl Z,.inl Z,trivial⟩ trivial trivial Z Z Z;rw[gF bn bn];rfl
 ·have Q:=js u
  have H:idxOf p l = -1:=vI p l (λj y T=>by
   have:=bQ T
   exact J j y bn T)
  rw[H];clear ih;exact dw
def yf(l:L Nd)(p:Nd->Bool)(f:FuncId)(A:L CV)(q:∀x∈l,aj f (aY x::A) (.bool (p x)))(Y:l.length<=1099511627776) :
  aj 96 [.sl 5 (aG l),.sH f A] (.bool (l.any p)):=by
 refine qn func96 call96 λβ hf=>?_
 repeat' (first|refine qU ?_|refine uC Z (Df l p f A q Y) ?_)
 all_goals exact Wk.of_eq (Zb CV.bool (yg p l))
def Bg:∀(l:L Nd),iT l=l.any G1
 |[]=>rfl
 |x::l=>by simp only[iT,abZ,Bg l]
def sU(l:L Nd)(B:aS l<=1099511627776):aj 73 [.sl 5 (aG l)] (.bool (iT l)):=by
 have E:∀x∈l,aj 97 [aY x] (.bool (G1 x)):=by
  rintro⟨k,n,p,s,xs⟩ hx;have J:=eM hx;simp only[bZ]at J;have W:=sU xs bn;unfold G1;by_cases D:k=2
  ·subst D;by_cases q:p=84
   ·subst q;rw[aaw ⟨Z,Z⟩];refine qn func97 call97 λβ hf=>?_;exact dw
   ·rw[aax (λh=>q h.2)];have C:(p==84)=false:=by simpa using q
    refine qn func97 call97 λβ hf=>?_;exact dw
  ·rw[aax (λh=>D h.1)];have C:(k==2)=false:=by simpa using D
   refine qn func97 call97 λβ hf=>?_;exact dw
 have Y:=gu l;have h1:=yf l G1 97 [] E bn;rw[<- Bg]at h1;refine qn func73 call73 λβ hf=>?_;exact dw
termination_by SizeOf.sizeOf l
decreasing_by
 have:=Zp hx;simp at this ⊢;omega
end Go.Proofs
namespace Go.Proofs
open Go.cM
attribute [local irreducible] AK ah aZ cx aW
def JS{p:Int}{w:UInt8}(h:w∈fG p):w=110\/w=99\/w=116\/w=118:=by
 unfold fG at h
 repeat' (split at h)
 all_goals simp at h
 all_goals (try (rcases h with h|h|h))
 all_goals (try (rcases h with h|h))
 all_goals (try subst h)
 all_goals simp
def O3(l:L Nd)(acc:L Ty):iB [] l acc=some acc:=by unfold iB;rfl
def Ur(J:L UInt8)(Y N P:Int)(S:L UInt8)(xs l:L Nd)(acc:L Ty):iB (110::J) (.mk Y N P S xs::l) acc=if Y=0/\0<=N/\N<=40 then iB J l acc else none:=by
 conv=>lhs;unfold iB
 rw[if_pos rfl]
def Us(J:L UInt8)(Y N P:Int)(S:L UInt8)(xs l:L Nd)(acc:L Ty):iB (99::J) (.mk Y N P S xs::l) acc=if Y=3 then iB J l acc else none:=by
 conv=>lhs;unfold iB
 rw[if_neg cc,if_pos rfl]
def Ut(J:L UInt8)(Y N P:Int)(S:L UInt8)(xs l:L Nd)(acc:L Ty):iB (116::J) (.mk Y N P S xs::l) acc=if(aW (.mk Y N P S xs)).2=0 then iB J l (acc++[(aW (.mk Y N P S xs)).1])else none:=by
 conv=>lhs;unfold iB
 rw[if_neg cc,if_neg cc,if_pos rfl]
def Uu(J:L UInt8)(Y N P:Int)(S:L UInt8)(xs l:L Nd)(acc:L Ty):iB (118::J) (.mk Y N P S xs::l) acc=iB J l acc:=by
 conv=>lhs;unfold iB
 rw[if_neg cc,if_neg cc,if_neg cc]
def Sc:Option (L Ty)->CV
 |some l => .gb [.sl 2 (au l),.bool true]
 |none => .gb [.sl 2 [],.bool false]
def G2(Q N P:Int)(S:L UInt8)(J:L Nd)(hn:aS J<=8589934593):aj 104 [aY (.mk Q N P S J)] (Sc (bJ P J)):=by
 have h1:=E3 P;have Np:=gu J;have G:=bq J;unfold bJ;by_cases O:P<40
 ·rw[if_pos (.inl O)];have e1:decide (P<40)=true:=aaw O;refine qn func104 call104 λβ hf=>?_;exact dw
 have e1:decide (P<40)=false:=aax O;by_cases c2:J.length≠(fG P).length
 ·rw[if_pos (.inr c2)];have E:((((aG J).length:Nat):Int) != (((fG P).length:Nat):Int))=true:=by rw[G];simp;omega
  refine qn func104 call104 λβ hf=>?_;exact dw
 rw[if_neg bn];have W:J.length=(fG P).length:=by omega
 have E:((((aG J).length:Nat):Int) != (((fG P).length:Nat):Int))=false:=by rw[G];simp;omega
 have V:=λw h => @JS P w h;generalize fG P=T at h1 W E V ⊢;refine qn func104 call104 λβ hf=>?_
 repeat' (first|refine qU ?_|refine zc ?_ ?_|(intro h;first|(cases h;done)|rw[h]|skip)|refine uC Z h1 ?_|(refine uA Z ?_ ?_<;>(try (show(_:Nat)*_<=_;dsimp only))))
 refine AK.fL [] [(6000,(0,none))] (env':=[(27,.c (.int .i64 (0:Nat))),(26,.c (.int .i64 (aG J).length)),(25,.c (.sl 5 (aG J))),(4,.c (.str T)),(5,.own (.tok 6000 0) 2 [])])
  (bs':=[]) (ts':=[(6000,0)]) (us':=[6000])
  ce  trivial Z ?_
 refine AK.eX (α:=Nat×L Ty) (λz=>z.1<=J.length/\z.2.length<=z.1/\iB T J []=iB (T.drop z.1) (J.drop z.1) z.2) (λz=>J.length-z.1)
  (λz=>[(27,.c (.int .i64 z.1)),(26,.c (.int .i64 (aG J).length)),(25,.c (.sl 5 (aG J))),(4,.c (.str T)),(5,.own (.tok 6000 0) 2 (au z.2))]) (λ_=>[]) (λ_=>[(6000,0)]) [6000] (0,[])
  ⟨bn,ek,Z⟩ ce trivial ⟨Z,trivial⟩ Z Z Z ?_
 rintro⟨i,acc⟩ ⟨C,Bd,Y⟩ ih;simp only at C Bd Y;rcases gr J i C with ⟨x,I,hm⟩|B
 ·have hc:=lE I;have h2:=bQ I;obtain⟨w,D⟩:∃w,T[i]?=some w:=⟨T[i]' bn,ek⟩
  have G3:=V w (aaA D);have hxs:=eM hm;have q:=jF x bn;rw[eG I,eG D]at Y;obtain⟨u,A,k3,k4,k5⟩:=x;rcases G3 with rfl|rfl|rfl|rfl
  ·have M:((((110:UInt8).toNat:Nat):Int)==110)=true:=rfl;rw[Ur]at Y;by_cases g1:u=0;rotate_left
   ·rw[if_neg (λh=>g1 h.1)]at Y;rw[Y];have H:(u != 0)=true:=by simpa using g1
    clear ih Y
    repeat' (first|refine qU ?_|refine zc ?_ ?_|(intro h;first|(cases h;done)|rw[h]|skip)|refine uI Z (i) Z (eo I) Z ?_|refine ah.kF hX kn Z Z Z Z Z Z Z (m:=i) Z D ?_|(refine uA Z ?_ ?_<;>(try (show(_:Nat)*_<=_;dsimp only))))
    all_goals exact uk
   subst g1;by_cases p:A<0
   ·rw[if_neg (λh=>by omega)]at Y;rw[Y];have H:decide (A<0)=true:=aaw p;clear ih Y
    repeat' (first|refine qU ?_|refine zc ?_ ?_|(intro h;first|(cases h;done)|rw[h]|skip)|refine uI Z (i) Z (eo I) Z ?_|refine ah.kF hX kn Z Z Z Z Z Z Z (m:=i) Z D ?_|(refine uA Z ?_ ?_<;>(try (show(_:Nat)*_<=_;dsimp only))))
    all_goals exact uk
   have g4:decide (A<0)=false:=aax p;by_cases g5:A>40
   ·rw[if_neg (λh=>by omega)]at Y;rw[Y];have H:decide (A>40)=true:=aaw g5;clear ih Y
    repeat' (first|refine qU ?_|refine zc ?_ ?_|(intro h;first|(cases h;done)|rw[h]|skip)|refine uI Z (i) Z (eo I) Z ?_|refine ah.kF hX kn Z Z Z Z Z Z Z (m:=i) Z D ?_|(refine uA Z ?_ ?_<;>(try (show(_:Nat)*_<=_;dsimp only))))
    all_goals exact uk
   have g6:decide (A>40)=false:=aax g5;rw[if_pos ⟨Z,bn,bn⟩]at Y
   repeat' (first|refine qU ?_|refine zc ?_ ?_|(intro h;first|(cases h;done)|rw[h]|skip)|refine uI Z (i) Z (eo I) Z ?_|refine ah.kF hX kn Z Z Z Z Z Z Z (m:=i) Z D ?_|(refine uA Z ?_ ?_<;>(try (show(_:Nat)*_<=_;dsimp only))))
   refine AK.again (ih (i+1,acc) ⟨h2,V8,Y⟩ fk) ⟨.inl (iS (i:=i) bn),.inl Z,.inl Z,.inl Z,.inl Z,trivial⟩ trivial ⟨Z,trivial⟩ Z Z Z
  ·have M:((((99:UInt8).toNat:Nat):Int)==110)=false:=rfl;have f2:((((99:UInt8).toNat:Nat):Int)==99)=true:=rfl;rw[Us]at Y;by_cases g1:u=3;rotate_left
   ·rw[if_neg g1]at Y;rw[Y];have H:(u != 3)=true:=by simpa using g1
    clear ih Y
    repeat' (first|refine qU ?_|refine zc ?_ ?_|(intro h;first|(cases h;done)|rw[h]|skip)|refine uI Z (i) Z (eo I) Z ?_|refine ah.kF hX kn Z Z Z Z Z Z Z (m:=i) Z D ?_|(refine uA Z ?_ ?_<;>(try (show(_:Nat)*_<=_;dsimp only))))
    all_goals exact uk
   subst g1;rw[if_pos rfl]at Y
   repeat' (first|refine qU ?_|refine zc ?_ ?_|(intro h;first|(cases h;done)|rw[h]|skip)|refine uI Z (i) Z (eo I) Z ?_|refine ah.kF hX kn Z Z Z Z Z Z Z (m:=i) Z D ?_|(refine uA Z ?_ ?_<;>(try (show(_:Nat)*_<=_;dsimp only))))
   refine AK.again (ih (i+1,acc) ⟨h2,V8,Y⟩ fk) ⟨.inl (iS (i:=i) bn),.inl Z,.inl Z,.inl Z,.inl Z,trivial⟩ trivial ⟨Z,trivial⟩ Z Z Z
  ·have M:((((116:UInt8).toNat:Nat):Int)==110)=false:=rfl;have f2:((((116:UInt8).toNat:Nat):Int)==99)=false:=rfl;have f3:((((116:UInt8).toNat:Nat):Int)==116)=true:=rfl;rw[Ut]at Y;rcases hr:aW (.mk u A k3 k4 k5)with ⟨⟨U,us⟩,e⟩
   rw[hr]at q Y;simp only at q Y;by_cases g1:e=0;rotate_left
   ·rw[if_neg g1]at Y;rw[Y];have H:(e != 0)=true:=by simpa using g1
    clear ih Y
    repeat' (first|refine qU ?_|refine zc ?_ ?_|(intro h;first|(cases h;done)|rw[h]|skip)|refine uI Z (i) Z (eo I) Z ?_|refine ah.kF hX kn Z Z Z Z Z Z Z (m:=i) Z D ?_|refine uC Z q ?_|(refine uA Z ?_ ?_<;>(try (show(_:Nat)*_<=_;dsimp only))))
    all_goals exact uk
   subst g1;rw[if_pos rfl]at Y
   repeat' (first|refine qU ?_|refine zc ?_ ?_|(intro h;first|(cases h;done)|rw[h]|skip)|refine uI Z (i) Z (eo I) Z ?_|refine ah.kF hX kn Z Z Z Z Z Z Z (m:=i) Z D ?_|refine uC Z q ?_|(refine uA Z ?_ ?_<;>(try (show(_:Nat)*_<=_;dsimp only))))
   ·have h1:=aR acc;simp only[aac,aad];omega
   ·have K:au acc++[er (.mk U us)]=au (acc++[Ty.mk U us]):=(jj acc [_]).symm;refine AK.fL [] [(6000,(0,some 6000))] (env':=[(27,.c (.int .i64 ((i+1:Nat):Int))),(26,.c (.int .i64 (aG J).length)),(25,.c (.sl 5 (aG J))),(4,.c (.str T)),(5,.own (.tok 6000 0) 2 (au (acc++[Ty.mk U us])))])
     (bs':=[]) (ts':=[(6000,0)]) (us':=[6000])
     ⟨⟨_,Z,.inl (jV (i:=i) bn)⟩,⟨_,Z,.inl Z⟩,⟨_,Z,.inl Z⟩,⟨_,Z,.inl Z⟩,⟨_,Z,⟨_,Z,.inr ⟨_,_,Z,Z,Zb (AV.own (.tok 6000 1) 2) K⟩⟩⟩,trivial⟩ trivial Z ?_
    exact ih (i+1,acc++[Ty.mk U us]) ⟨h2,ot,Y⟩ fk
  ·have M:((((118:UInt8).toNat:Nat):Int)==110)=false:=rfl;have f2:((((118:UInt8).toNat:Nat):Int)==99)=false:=rfl;have f3:((((118:UInt8).toNat:Nat):Int)==116)=false:=rfl;rw[Uu]at Y
   repeat' (first|refine qU ?_|refine zc ?_ ?_|(intro h;first|(cases h;done)|rw[h]|skip)|refine uI Z (i) Z (eo I) Z ?_|refine ah.kF hX kn Z Z Z Z Z Z Z (m:=i) Z D ?_|(refine uA Z ?_ ?_<;>(try (show(_:Nat)*_<=_;dsimp only))))
   refine AK.again (ih (i+1,acc) ⟨h2,V8,Y⟩ fk) ⟨.inl (iS (i:=i) bn),.inl Z,.inl Z,.inl Z,.inl Z,trivial⟩ trivial ⟨Z,trivial⟩ Z Z Z
 ·have hc:=js B;have h0:iB T J []=some acc:=by
   rw[Y,B,Zx,W,Zx];exact O3 _ _
  rw[h0];clear ih Y;exact dw
end Go.Proofs
