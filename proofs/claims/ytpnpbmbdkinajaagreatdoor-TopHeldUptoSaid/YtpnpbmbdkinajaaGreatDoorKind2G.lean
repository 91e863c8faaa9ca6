/- A part of the proof. -/
import Derived.Test.YtpnpbmbdkinajaaGreatDoorDataG
import Derived.Test.YtpnpbmbdkinajaaGreatDoorHeadG
set_option linter.all false
set_option maxHeartbeats 0
set_option maxRecDepth 100000
open Go.IntKind Go.Proofs.Tryz
namespace Go.Proofs
open Go.cE
attribute [local irreducible] AK ag aZ
def idxOf{Y:Type}(p:Y->Bool):List Y->Int
 |[] => -1
 |x::l=>if p x then 0 else(match idxOf p l with
  |-1 => -1
  |n=>n+1)
def uL{U}p:∀l,(idxOf p l = -1/\∀x∈l,p x=false)\/∃(i:Nat) (x:U),l[i]?=some x/\p x/\(∀(j) y,j<i->l[j]?=some y->p y=false)/\idxOf p l=i
 |[] => .inl ⟨Z,cS⟩
 |x::l=>by
  by_cases O:p x;right;exact⟨0,x,cS,O,cS,by simp[idxOf,O]⟩;rcases uL p l with ⟨h1,V⟩|⟨i,y,h1,V,B,Y⟩
  left;exact⟨by simp[idxOf,O,h1],by simpa[O]using V⟩;right;refine⟨i+1,y,ae2,V,?_,?_⟩
  ·intro j z G P;cases j with
   |zero=>simp at P;subst P;simpa using O
   |succ j=>simp at P;exact B j z ai P
  have:idxOf p (x::l)=(match idxOf p l with | -1 => -1|n=>n+1):=by simp[idxOf,O]
  rw[this,Y];split;omega;rfl
def yN{Q}(p:Q->Bool)(l i x)(O:l[i]?=some x)(h:p x)(U:∀(j:Nat) y,j<i->l[j]?=some y->p y=false):idxOf p l=i:=by
 rcases uL p l with ⟨S,V⟩|⟨k,y,S,V,B,Y⟩
 have:=V x (acm O);rw[h]at this;simp at this;rw[Y];rcases Nat.lt_trichotomy i k with T|rfl|T
 have:=B i x T O;rw[h]at this;simp at this;rfl;have:=U k y T S;rw[V]at this;simp at this
def BC{V}(p:V->Bool)(l)(h:∀(j:Nat) y,l[j]?=some y->p y=false):idxOf p l = -1:=by
 rcases uL p l with ⟨Y,_⟩|⟨k,y,Y,U,_⟩
 exact Y;have:=h k y Y;rw[U]at this;simp at this
def DV{T}(p:T->Bool)(l):decide (idxOf p l>=0)=l.any p:=by
 rcases uL p l with ⟨V,U⟩|⟨k,y,V,U,B,Y⟩
 rw[V];symm;simp;intro x O;simpa using U x O;rw[Y];symm;simp;exact⟨y,acm V,U⟩
set_option maxHeartbeats 1000000 in
def Ki(l:Γ)(p:Ty->Bool)(f:FuncId)(Y:Ψ)(M:∀x∈l,af f (ct x::Y) (.bool (p x)))(N:l.length<=1099511627776) :
  af 67 [.sl 2 (az l),.sX f Y] (.int .i64 (idxOf p l)):=by
 refine qn func67 call67 λF hf=>?_;refine AK.SH hX mixed 300 Z ?_;refine AK.dg (α:=Nat) (λi=>i<=l.length/\∀(j:Nat) x,j<i->l[j]?=some x->p x=false) (λi=>l.length-i)
  (λi=>[(8,Υ i),(7,Υ (az l).length),(0,.c (.sl 2 (az l))),(1,.c (.sX f Y))]) (λ_=>[]) (λ_=>[]) [] 0
  ⟨ai,by intro j x h;omega⟩ ce trivial trivial Z Z Z ?_
 rintro i ⟨hi,S⟩ ih
 repeat' (first|refine sz ?_|refine zc ?_ ?_|(intro h;first|(cases h;done)|rw[h]|skip))
 ·have P:i<l.length:=by simpa[aY]using h
  obtain⟨⟨T,U⟩,Q⟩:∃x,l[i]?=some x:=⟨l[i],by simp[P]⟩;refine ag.index hX Z Z Z Z Z Z Z Z Z Z i Z (by rw[BO,Q];rfl) Z ?_
  repeat' (first|refine sz ?_|refine zc ?_ ?_|(intro h;first|(cases h;done)|rw[h]|skip)|refine uC Z (M ⟨T,U⟩ (acm Q)) ?_)
  rw[yN p l i ⟨T,U⟩ Q h S];have K:=h
  have J:=ih (i+1) ⟨ai,λj x E V=>by
   by_cases O:j=i;subst O;rw[Q]at V;simp at V;subst V;exact K
   exact S j x ai V⟩ ai
  refine AK.again J ⟨.inl ?_,.inl Z,.inl Z,.inl Z,trivial⟩ trivial trivial Z Z Z;rw[gW ai ai];rfl
 have I:l.length<=i:=by simpa[aY]using h
 rw[BC p l λj y hy=>S j y adV hy]
def qe(l)(p:Ty->Bool)(f)(C:Ψ)(M:∀x∈l,af f (ct x::C) (.bool (p x)))(T:l.length<=1099511627776) :
  af 52 [.sl 2 (az l),.sX f C] (.bool (l.any p)):=by
 refine qn func52 call52 λY hf=>?_
 repeat' (first|refine sz ?_|refine uC Z (Ki l p f C M T) ?_)
 rw[DV]
def Ld(p:Int->Bool):∀l,(!(l.any λx => !vE p x))=oW p l
 |[]=>rfl
 |t::l=>by simp only[oW,<- Ld p l,akx];cases vE p t<;>simp
set_option maxHeartbeats 1000000 in
def Ei(p:Int->Bool)(f:FuncId)(Y:Ψ)(Q:∀n:Int,af f (.int .i64 n::Y) (.bool (p n))) :
  ∀(t:Ty),bh t<=1099511627776->af 86 [ct t,.sX f Y] (.bool (vE p t))
 |.mk T V,O=>by
  simp only[bh]at O;have K:=lD V;have U:∀x∈V,af 99 (ct x::[.ip [.sX f Y]]) (.bool (!vE p x)):=by
   intro x P;have N:=Ei p f Y Q x (by have:=cN P;omega);obtain⟨J,S⟩:=x;refine qn func99 call99 λM hf=>?_
   repeat' (first|refine sz ?_|refine uC Z N ?_)
   rfl
  refine qn func86 call86 λM hf=>?_;refine AK.seq ?_;refine AK.region mixed Z ?_
  repeat' (first|refine so ?_|refine zu ?_ ?_|(intro h;first|(cases h;done)|rw[h]|skip))
  refine AK.freeze 3 Z Z Z Z ?_
  repeat' (first|refine sz ?_|refine zc ?_ ?_|(intro h;first|(cases h;done)|rw[h]|skip)|refine uC Z (Q T) ?_|refine uC Z (qe V (λx => !vE p x) _ _ U ai) ?_)
  simp only[vE,<- Ld,h,aiM,akg];simp only[vE,h,ahT]
termination_by t=>SizeOf.sizeOf t
decreasing_by
 have:=ahx P;simp at this ⊢;omega
def cT{Y:Type}{l:List Y}{i x}(h:l[i]?=some x):l.drop i=x::l.drop (i+1):=by obtain⟨V,U⟩:=List.getElem?_eq_some_iff.1 h;rw[ajF V,U]
def bp{Y:Type}{l:List Y}{i x}(h:l[i]?=some x):i<l.length:=(List.getElem?_eq_some_iff.1 h).1
def fU{Y:Type}(l:List Y)(i)(H:i<=l.length):(∃x,l[i]?=some x/\x∈l)\/i=l.length:=by
 rcases ajK i l.length with h|h
 simp_all;omega
def ij{l}{i:Nat}{x}(h:l[i]?=some x):(az l)[i]?=some (ct x):=by rw[BO,h];rfl
def dec_lt{a b:Int}(h:a<b):decide (a<b):=ace h
def Mn{a b:Int}(h:b<=a):decide (a<b)=false:=acf (by omega)
def Mo{l i x}(h:l[i]?=some x):decide ((i:Nat)<(((az l).length):Int)):=dec_lt (by have:=bp h;rw[aY];omega)
def Gz{l i}(h:i=l.length):decide ((i:Nat)<(((az l).length):Int))=false:=Mn (by rw[aY];omega)
def P9(n):af 87 [.int .i64 n] (.bool (Bq n)):=by
 refine qn func87 call87 λY hf=>?_
 repeat' (first|refine sz ?_|refine zc ?_ ?_|(intro h;first|(cases h;done)|rw[h]|skip)|refine uC Z (yH n) ?_)
 all_goals simp_all [Bq]
def Qa(n):af 124 [.int .i64 n] (.bool (uK n)):=by
 refine qn func124 call124 λY hf=>?_
 repeat' (first|refine sz ?_|refine zc ?_ ?_|(intro h;first|(cases h;done)|rw[h]|skip))
 all_goals simp_all [uK]
def nv(t)(C:bh t<=1099511627776):af 66 [ct t] (.bool (fZ t)):=by
 have V:=Ei Bq 87 [] P9 t C;obtain⟨T,Y⟩:=t;refine qn func66 call66 λU hf=>?_
 repeat' (first|refine sz ?_|refine uC Z V ?_)
 rfl
def oZ(t)(C:bh t<=1099511627776):af 102 [ct t] (.bool (iF t)):=by
 have V:=Ei uK 124 [] Qa t C;obtain⟨T,Y⟩:=t;refine qn func102 call102 λU hf=>?_
 repeat' (first|refine sz ?_|refine uC Z V ?_)
 rfl
def BP(p:Int->Bool):∀l,(!(l.any λx => !v8 p x))=mg p l
 |[]=>rfl
 |t::l=>by simp only[mg,<- BP p l,akx];cases v8 p t<;>simp
set_option maxHeartbeats 1000000 in
def xo:∀(t:Ty),bh t<=1099511627776->af 121 [ct t] (.bool (jI t))
 |.mk T Y,Q=>by
  simp only[bh]at Q;have K:=lD Y;have V:∀x∈Y,af 146 (ct x::[]) (.bool (!jI x)):=by
   intro x S;have P:=xo x (by have:=cN S;omega);obtain⟨J,U⟩:=x;refine qn func146 call146 λO hf=>?_
   repeat' (first|refine sz ?_|refine uC Z P ?_)
   rfl
  have N:=qe Y (λx => !jI x) 146 [] V ai;refine qn func121 call121 λO hf=>?_
  repeat' (first|refine sz ?_|refine zc ?_ ?_|(intro h;first|(cases h;done)|rw[h]|skip)|refine uC Z N ?_)
  all_goals
   have M:=BP wv Y;simp only[jI]at *;simp only[v8,<- M,wv];simp_all
termination_by t=>SizeOf.sizeOf t
decreasing_by
 have:=ahx S;simp at this ⊢;omega
set_option maxHeartbeats 1000000 in
def sB:∀(t:Ty),bh t<=1099511627776->af 40 [ct t] (.bool (gk t))
 |.mk T Y,Q=>by
  simp only[bh]at Q;have K:=lD Y;have V:∀x∈Y,af 53 (ct x::[]) (.bool (!gk x)):=by
   intro x S;have P:=sB x (by have:=cN S;omega);obtain⟨J,U⟩:=x;refine qn func53 call53 λO hf=>?_
   repeat' (first|refine sz ?_|refine uC Z P ?_)
   rfl
  have N:=qe Y (λx => !gk x) 53 [] V ai;refine qn func40 call40 λO hf=>?_
  repeat' (first|refine sz ?_|refine zc ?_ ?_|(intro h;first|(cases h;done)|rw[h]|skip)|refine uC Z N ?_)
  all_goals
   have M:=BP xF Y;simp only[gk]at *;simp only[v8,<- M,xF];simp_all
termination_by t=>SizeOf.sizeOf t
decreasing_by
 have:=ahx S;simp at this ⊢;omega
abbrev ez(q:L Int):L CV:=q.map λn => .int .i64 n
def ints_at{l}{i:Nat}{x}(h:l[i]?=some x):(ez l)[i]?=some (.int .i64 x):=by simp[ez,h]
def ach{l i x}(h:l[i]?=some x):decide ((i:Nat)<(((ez l).length):Int)):=dec_lt (by have:=bp h;simp[ez];omega)
def Yv{l i}(h:i=l.length):decide ((i:Nat)<(((ez l).length):Int))=false:=Mn (by simp[ez];omega)
def dz{i:Nat}(h:i<1099511627776):some (AV.c (CV.int .i64 (i64.wrap (i+1))))=some (AV.c (CV.int .i64 (i+1:Nat))):=by rw[gW ai ai];rfl
end Go.Proofs
namespace Go.Proofs
open Go.cE
def HY{Y x}(h:Y[0]?=some x):jG Y=fZ x:=by
 cases Y with
 |nil=>simp at h
 |cons y l=>simp at h;subst h;rfl
def Zw(T)(Y:Γ)(d n)(I:¬(d>24\/n+1>300\/arity T≠Y.length)) :
  gA (.mk T Y) d n=((fy Y (d+1) (n+1)).1&&(if T=13\/T=15 then jG Y else true),(fy Y (d+1) (n+1)).2):=by
 simp only[gA];grind
def Ti(d m):fy [] d m=(true,m):=rfl
def Qb(T)(Y:Γ)(d n)(I:d>24\/n+1>300\/arity T≠Y.length):gA (.mk T Y) d n=(false,n+1):=by simp only[gA,if_pos I]
def Qc(t)(l:Γ)(d n):fy (t::l) d n=if(gA t d n).1 then fy l d (gA t d n).2 else(false,(gA t d n).2):=by simp only[fy];grind
attribute [local irreducible] AK ag aZ bS gA fy jG fZ
def xd:∀(t)(d n:Int),bh t<=8589934593->0<=d->d<=1099511627776-bh t->0<=n->n<=300 ->
  iJ 51 [.v (.c (ct t)),.v (.c (.int .i64 d)),.box [.c (.int .i64 n)]] [.c (.bool (gA t d n).1)] [(2,[.c (.int .i64 (gA t d n).2)])]
 |.mk T args=>by
  intro d n C Pc D B hn;simp only[bh]at C D;have Fg:=lD args;have A:∀x∈args,∀m:Int,0<=m->m<=300->iJ 51 [.v (.c (ct x)),.v (.c (.int .i64 (i64.wrap (d+1)))),.box [.c (.int .i64 m)]] [.c (.bool (gA x (d+1) m).1)] [(2,[.c (.int .i64 (gA x (d+1) m).2)])]:=by intro x O m q h1;have:=cN O;rw[gW ai ai];exact xd x (d+1) m ai ai ai q h1
  have P:i64.wrap (n+1)=n+1:=gW ai ai;refine en func51 call51 [(0,.c (ct (.mk T args))),(1,.c (.int .i64 d)),(2,.ptr 1002000 0)] [(1002000,[.c (.int .i64 n)])] [] [1002000] λβ hf=>?_
  repeat' (first|refine rG ?_|refine ze ?_ ?_|(intro h;first|(cases h;done)|rw[h]|skip)|refine uC Z (yH T) ?_)
  rotate_left 6
  ·refine AK.dg (α:=Nat×Int) (λz=>z.1<=args.length/\fy args (d+1) (n+1)=fy (args.drop z.1) (d+1) z.2/\0<=z.2/\z.2<=300) (λz=>args.length-z.1)
    (λz=>[(34,.c (.int .i64 z.1)),(33,.c (.int .i64 (az args).length)),(32,.c (.sl 2 (az args))),(1,.c (.int .i64 d)),(2,.ptr 1002000 0),(3,.ptr 3 0)])
    (λz=>[(3,[.c (.int .i64 T),.c (.sl 2 (az args))]),(1002000,[.c (.int .i64 z.2)])]) (λ_=>[]) [3,1002000] (0,n+1)
    ⟨ai,Z,ai,?_⟩ ce ⟨Z,ahm (λk=>some [AV.c (CV.int .i64 k)]) P,trivial⟩ trivial Z Z Z ?_
   simp_all;rintro⟨i,m⟩ ⟨H,W,V,N⟩ ih;simp only at H W V N;have I:¬(d>24\/n+1>300\/arity T≠args.length):=(by rename_i g1 g2;simp only[aka,P,ajA,bne_eq_false_iff_eq,aY]at g1 g2 h;rintro(M|M|M);omega;omega;exact M h);have S:=Zw T args d n I;rcases fU args i H with ⟨x,O,Q⟩|G
   ·have hc:=Mo O;have hq:=A x Q m V N;have u:=wu x (d+1) m N;rw[cT O]at W;rw[Qc]at W;obtain⟨U,us⟩:=x
    repeat' (first|refine rG ?_|refine ze ?_ ?_|(intro h;first|(cases h;done)|rw[h]|skip)|refine uI Z (i) Z (ij O) Z ?_|refine oa ?_ (hq:=hq))
    have hf:(gA (.mk U us) (d+1) m).1=false:=(by simpa using h);rw[hf]at W;rw[S,W];rfl;have hf:(gA (.mk U us) (d+1) m).1=false:=(by simpa using h);rw[hf]at W;rw[S,W];rfl;have hf:(gA (.mk U us) (d+1) m).1:=(by simpa using h);rw[hf]at W;refine AK.again (ih (i+1,(gA (.mk U us) (d+1) m).2) ⟨bp O,W,ai,u.2.2 hf⟩ ab6)
     ⟨.inl (dz qv),.inl Z,.inl Z,.inl Z,.inl Z,.inl Z,trivial⟩ ⟨Z,Z,trivial⟩ trivial Z Z Z
   have hc:=Gz G;have hG:fy args (d+1) (n+1)=(true,m):=(by rw[W,G,aho,Ti]);rw[hG]at S;by_cases K:T=13\/T=15
   ·obtain⟨E,Y⟩:∃x,args[0]?=some x:=(by have h1:arity T>=1:=(by rcases K with rfl|rfl<;>decide);have h2:0<args.length:=(by simp only[not_or,ne_eq,ahI]at I;omega);exact⟨args[0],by simp[h2]⟩);have J:=nv E (by have:=cN (acm Y);omega);rw[if_pos K,HY Y]at S;clear ih A;obtain⟨U,us⟩:=E
    repeat' (first|refine rG ?_|refine ze ?_ ?_|(intro h;first|(cases h;done)|rw[h]|skip)|refine uI Z (0) Z (ij Y) Z ?_|refine uC Z J ?_)
    all_goals first
     |(show(_:L LV)=_;rw[S];first|rfl|(simp;done)|(exfalso;simp_all;done))
     |(show(_:L (Nat×L LV))=_;rw[S];done)
     |(show(_:L (Nat×L LV))=_;rw[S];rfl)
     |(exfalso;clear hf S W;simp_all;done)
   rw[if_neg K]at S;clear ih A
   repeat' (first|refine rG ?_|refine ze ?_ ?_|(intro h;first|(cases h;done)|rw[h]|skip))
   all_goals first
    |(show(_:L LV)=_;rw[S];first|rfl|(simp;done)|(exfalso;simp_all;done))
    |(show(_:L (Nat×L LV))=_;rw[S];done)
    |(show(_:L (Nat×L LV))=_;rw[S];rfl)
    |(exfalso;clear hf S W;simp_all;done)
  all_goals
   have p:d>24\/n+1>300\/arity T≠args.length:=by
    clear A hf
    first
    |(left;simp_all;done)
    |(right;left;simp_all;done)
    |(right;right;simp_all [aY];done)
   first
   |(show(_:L LV)=_;rw[Qb T args d n p])
   |(show(_:L (Nat×L LV))=_;rw[Qb T args d n p,P])
termination_by t=>SizeOf.sizeOf t
decreasing_by
 have:=ahx O;simp at this ⊢;omega
end Go.Proofs
namespace Go.Proofs
open Go.cE
def KJ(T u p)(s:Δ)(Y:Θ)(d left)(h:left-1<0\/d>24\/T≠2\/u≠0\/s≠[]\/arity p≠Y.length):gQ (.mk T u p s Y) d left=(none,left-1):=by simp only[gQ,if_pos h]
def WC(T u p)(s:Δ)(Y:Θ)(d left)(h:¬(left-1<0\/d>24\/T≠2\/u≠0\/s≠[]\/arity p≠Y.length)) :
  gQ (.mk T u p s Y) d left=((eR Y (d+1) (left-1)).1.map (.mk p),(eR Y (d+1) (left-1)).2):=by
 simp only[gQ,if_neg h];rcases eR Y (d+1) (left-1)with ⟨b,m⟩
 cases b<;>rfl
def Pb(d m):eR [] d m=(some [],m):=rfl
def Mm(t)(l:Θ)(d n):eR (t::l) d n=match (gQ t d n).1 with
  |some y=>((eR l d (gQ t d n).2).1.map (y :: ·),(eR l d (gQ t d n).2).2)
  |none=>(none,(gQ t d n).2):=by
 simp only[eR];rcases gQ t d n with ⟨b,m⟩
 cases b with
 |none=>rfl
 |some y =>
  simp only;rcases eR l d m with ⟨r,J⟩
  cases r<;>rfl
def ff{l}{i:Nat}{x}(h:l[i]?=some x):(aD l)[i]?=some (aV x):=by rw[G6,h];rfl
def mG{l i x}(h:l[i]?=some x):decide ((i:Nat)<(((aD l).length):Int)):=dec_lt (by have:=bp h;rw[bq];omega)
def j9{l i}(h:i=l.length):decide ((i:Nat)<(((aD l).length):Int))=false:=Mn (by rw[bq];omega)
def lZ:∀a b,az (a++b)=az a++az b
 |[],b=>rfl
 |t::a,b=>by simp[az,lZ a b]
def nT:∀a b,aD (a++b)=aD a++aD b
 |[],b=>rfl
 |t::a,b=>by simp[aD,nT a b]
def lI{i:Nat}(h:i<1099511627776):AV.c (CV.int .i64 (i64.wrap (i+1)))=AV.c (CV.int .i64 (i+1:Nat)):=by rw[gW ai ai];rfl
def KK:Option Ty->Ty
 |some t=>t
 |none => .mk 0 []
attribute [local irreducible] AK ag aZ bS gA fy jG fZ gQ eR
def mH t(C:bh t<=8589934593):af 39 [ct t] (.bool (bA t)):=by
 have hq:=xd t 1 0 C ai ai ai ai;obtain⟨T,Y⟩:=t;refine qn func39 call39 λV hf=>?_
 repeat' (first|refine rG ?_|refine oa ?_ (hq:=hq))
 rfl
def Ff:∀(n)(d left:Int),bE n<=8589934593->0<=d->d<=1099511627776-bE n->0<=left->left<=300 ->
  iJ 63 [.v (.c (aV n)),.v (.c (.int .i64 d)),.box [.c (.int .i64 left)]] [.c (ct (KK (gQ n d left).1)),.c (.bool (gQ n d left).1.isSome)] [(2,[.c (.int .i64 (gQ n d left).2)])]
 |.mk T J p s args=>by
  intro d left C Pc I G hn;simp only[bE]at C I;have Fg:=gB args;have A:∀x∈args,∀m:Int,0<=m->m<=300->iJ 63 [.v (.c (aV x)),.v (.c (.int .i64 (i64.wrap (d+1)))),.box [.c (.int .i64 m)]] [.c (ct (KK (gQ x (d+1) m).1)),.c (.bool (gQ x (d+1) m).1.isSome)] [(2,[.c (.int .i64 (gQ x (d+1) m).2)])]:=by intro x O m E h1;have:=eS O;rw[gW ai ai];exact Ff x (d+1) m ai ai ai E h1
  have P:i64.wrap (left-1)=left-1:=gW ai ai;refine en func63 call63 [(0,.c (aV (.mk T J p s args))),(1,.c (.int .i64 d)),(2,.ptr 1002000 0)] [(1002000,[.c (.int .i64 left)])] [] [1002000] λβ hf=>?_
  repeat' (first|refine rG ?_|refine ze ?_ ?_|(intro h;first|(cases h;done)|rw[h]|skip)|refine uC Z (yH p) ?_|(refine uA Z ?_ ?_<;>(try (show(_:Nat)*_<=_;dsimp only))))
  rotate_left 12
  ·refine AK.gK [(6,6),(8,8),(1002000,1002000)] [(8000,(0,none))] (env':=[(57,.c (.int .i64 (0:Nat))),(56,.c (.int .i64 (aD args).length)),(55,.c (.sl 5 (aD args))),(1,.c (.int .i64 d)),(2,.ptr 1002000 0),(6,.ptr 6 0),(8,.ptr 8 0)])
    (bs':=[(6,[.c (.int .i64 0),.own .exact 2 []]),(8,[.c (.int .i64 p),.own (.tok 8000 0) 2 []]),(1002000,[.c (.int .i64 (left-1))])]) (ts':=[(8000,0)]) (us':=[6,8,1002000,8000])
    ce 
    ⟨ce,ce,⟨_,_,Z,Z,⟨_,_,Z,.inl (ahm (λk=>AV.c (.int .i64 k)) P),Z⟩⟩,trivial⟩ Z ?_
   refine AK.dg (α:=Nat×L Ty×Int) (λz=>z.1<=args.length/\z.1=z.2.1.length/\eR args (d+1) (left-1)=((eR (args.drop z.1) (d+1) z.2.2).1.map (z.2.1 ++ ·),(eR (args.drop z.1) (d+1) z.2.2).2)/\0<=z.2.2/\z.2.2<=300) (λz=>args.length-z.1)
    (λz=>[(57,.c (.int .i64 z.1)),(56,.c (.int .i64 (aD args).length)),(55,.c (.sl 5 (aD args))),(1,.c (.int .i64 d)),(2,.ptr 1002000 0),(6,.ptr 6 0),(8,.ptr 8 0)])
    (λz=>[(6,[.c (.int .i64 0),.own .exact 2 []]),(8,[.c (.int .i64 p),.own (.tok 8000 0) 2 (az z.2.1)]),(1002000,[.c (.int .i64 z.2.2)])]) (λ_=>[(8000,0)]) [6,8,1002000,8000] (0,[],left-1)
    ⟨ai,Z,cS,?_,by show left-1<=300;omega⟩ ce ⟨Z,Z,Z,trivial⟩ ⟨Z,trivial⟩ Z Z Z ?_
   have:¬(left-1<0):=(by simp_all);show 0<=left-1;omega;rintro⟨i,acc,m⟩ ⟨H,N,W,Y,M⟩ ih;simp only at H N W Y M;have B:¬(left-1<0\/d>24\/T≠2\/J≠0\/s≠[]\/arity p≠args.length):=(by clear ih A hf;simp_all [bq]);have S:=WC T J p s args d left B;rcases fU args i H with ⟨x,O,V⟩|K
   ·have hc:=mG O;have hq:=A x V m Y M;have u:=KL x (d+1) m Y;rw[cT O,Mm]at W;rcases hr:gQ x (d+1) m with ⟨b,D⟩
    rw[hr]at hq u W;obtain⟨xk,xn,xp,xs,xa⟩:=x;cases b with
    |none =>
     simp only[KK,Option.isSome_none]at hq W
     repeat' (first|refine rG ?_|refine ze ?_ ?_|(intro h;first|(cases h;done)|rw[h]|skip)|refine uI Z (i) Z (ff O) Z ?_|refine oa ?_ (hq:=hq)|(refine uA Z ?_ ?_<;>(try (show(_:Nat)*_<=_;dsimp only))))
     rw[S,W];rfl;rw[S,W]
    |some y =>
     obtain⟨U,us⟩:=y;simp only[KK,Option.isSome_some]at hq W
     repeat' (first|refine rG ?_|refine ze ?_ ?_|(intro h;first|(cases h;done)|rw[h]|skip)|refine uI Z (i) Z (ff O) Z ?_|refine oa ?_ (hq:=hq)|(refine uA Z ?_ ?_<;>(try (show(_:Nat)*_<=_;dsimp only))))
     have h1:=aY acc;have h2:=bp O;simp only[aat,aav];omega;have q:az acc++[ct (.mk U us)]=az (acc++[Ty.mk U us]):=(lZ acc [.mk U us]).symm;refine AK.gK [(6,6),(8,8),(1002000,1002000)] [(8000,(0,some 8000))] (env':=[(57,.c (.int .i64 ((i+1:Nat):Int))),(56,.c (.int .i64 (aD args).length)),(55,.c (.sl 5 (aD args))),(1,.c (.int .i64 d)),(2,.ptr 1002000 0),(6,.ptr 6 0),(8,.ptr 8 0)])
      (bs':=[(6,[.c (.int .i64 0),.own .exact 2 []]),(8,[.c (.int .i64 p),.own (.tok 8000 0) 2 (az (acc++[Ty.mk U us]))]),(1002000,[.c (.int .i64 D)])]) (ts':=[(8000,0)]) (us':=[6,8,1002000,8000])
      ⟨⟨_,Z,.inl (lI (i:=i) qv)⟩,⟨_,Z,.inl Z⟩,⟨_,Z,.inl Z⟩,⟨_,Z,.inl Z⟩,⟨_,Z,⟨_,Z,Z⟩⟩,⟨_,Z,⟨_,Z,Z⟩⟩,⟨_,Z,⟨_,Z,Z⟩⟩,trivial⟩
      ⟨ce,⟨_,_,Z,Z,⟨_,_,Z,.inl Z,⟨_,_,Z,⟨_,Z,.inr ⟨_,_,Z,Z,ahm (AV.own (.tok 8000 1) 2) q⟩⟩,Z⟩⟩⟩,ce,trivial⟩ Z ?_
     refine ih (i+1,acc++[Ty.mk U us],D) ⟨bp O,by simp[N],?_,?_,?_⟩ ab6
     ·show eR args (d+1) (left-1)=_;rw[W];rcases eR (List.drop (i+1) args) (d+1) D with ⟨r,m2⟩
      cases r<;>simp
     exact u.2.2 cS;have:=u.1;show D<=300;simp only at this;omega
   have hc:=j9 K;have hG:eR args (d+1) (left-1)=(some acc,m):=(by rw[W,K,aho,Pb];simp);rw[hG]at S;clear ih A
   repeat' (first|refine rG ?_|refine ze ?_ ?_|(intro h;first|(cases h;done)|rw[h]|skip)|(refine uA Z ?_ ?_<;>(try (show(_:Nat)*_<=_;dsimp only))))
   rw[S];rfl;rw[S]
  all_goals
   have Q:left-1<0\/d>24\/T≠2\/J≠0\/s≠[]\/arity p≠args.length:=by
    clear A hf
    first
    |(left;simp_all;done)
    |(right;left;simp_all;done)
    |(right;right;left;simp_all;done)
    |(right;right;right;left;simp_all;done)
    |(right;right;right;right;left;simp_all;done)
    |(right;right;right;right;right;simp_all [bq];done)
   first
   |(show(_:L LV)=_;rw[KJ T J p s args d left Q];rfl)
   |(show(_:L (Nat×L LV))=_;rw[KJ T J p s args d left Q,P])
termination_by t=>SizeOf.sizeOf t
decreasing_by
 have:=ahx O;simp at this ⊢;omega
end Go.Proofs
namespace Go.Proofs
open Go.cE
attribute [local irreducible] AK ag aZ bS
def uw{Y:Type}(q:Y->Y->Bool):List Y->List Y->Bool
 |[],[]=>true
 |x::l,y::r=>q x y&&uw q l r
 |_,_=>false
def Cw{Y}q:∀(l r:List Y),l.length≠r.length->uw q l r=false
 |[],[],h=>by simp at h
 |[],_::_,_=>rfl
 |_::_,[],_=>rfl
 |x::l,y::r,h=>by simp[uw,Cw q l r nu]
def Cx:∀(l r:Γ),uw cx l r=gS l r
 |[],[]=>rfl
 |[],_::_=>rfl
 |_::_,[]=>rfl
 |x::l,y::r=>by simp[uw,gS,Cx l r]
def G8:∀(l r:Θ),uw rJ l r=mq l r
 |[],[]=>rfl
 |[],_::_=>rfl
 |_::_,[]=>rfl
 |x::l,y::r=>by simp[uw,mq,G8 l r]
def G9{Y}q{l r:List Y}{i}(h:l.length=r.length)(H:i=l.length):uw q (l.drop i) (r.drop i):=by subst H;rw[aho,h,aho];rfl
def sV(l r)(q:Ty->Ty->Bool)(f)(C:Ψ)(M:∀x∈l,∀y∈r,af f (ct x::ct y::C) (.bool (q x y)))(Y:l.length<=1099511627776) :
  af 36 [.sl 2 (az l),.sl 2 (az r),.sX f C] (.bool (uw q l r)):=by
 by_cases E:l.length=r.length
 ·have K:((((az l).length:Nat):Int) != (((az r).length:Nat):Int))=false:=by rw[aY,aY,E];simp
  refine qn func36 call36 λβ hf=>?_
  repeat' (first|refine rG ?_|refine zc ?_ ?_|(intro h;first|(cases h;done)|rw[h]|skip))
  refine AK.dg (α:=Nat) (λi=>i<=l.length/\uw q l r=uw q (l.drop i) (r.drop i)) (λi=>l.length-i)
   (λi=>[(17,Υ i),(16,Υ (az l).length),(15,.c (.sl 2 (az l))),(1,.c (.sl 2 (az r))),(2,.c (.sX f C))]) (λ_=>[]) (λ_=>[]) [] 0
   ⟨ai,Z⟩ ce trivial trivial Z Z Z ?_
  rintro i ⟨H,W⟩ ih;rcases fU l i H with ⟨x,O,Q⟩|S
  ·have D:=Mo O;obtain⟨y,V⟩:∃y,r[i]?=some y:=⟨r[i]' qv,cS⟩;have N:=M x Q y (acm V);rw[cT O,cT V]at W;simp only[uw]at W;obtain⟨T,P⟩:=x;obtain⟨U,J⟩:=y
   repeat' (first|refine rG ?_|refine zc ?_ ?_|(intro h;first|(cases h;done)|rw[h]|skip)|refine uI Z (i) Z (ij O) Z ?_|refine uI Z (i) Z (ij V) Z ?_|refine uC Z N ?_)
   rw[W];simp_all;refine AK.again (ih (i+1) ⟨bp O,?_⟩ qv) ⟨.inl (dz qv),.inl Z,.inl Z,.inl Z,.inl Z,trivial⟩ trivial trivial Z Z Z;simp_all
  have D:=Gz S
  repeat' (first|refine rG ?_|refine zc ?_ ?_|(intro h;first|(cases h;done)|rw[h]|skip))
  rw[W,G9 q E S]
 have K:((((az l).length:Nat):Int) != (((az r).length:Nat):Int)):=by rw[aY,aY];simp;omega
 rw[Cw q l r E];exact qdq func36 call36
def yK(l r)(q:Nd->Nd->Bool)(f)(C:Ψ)(M:∀x∈l,∀y∈r,af f (aV x::aV y::C) (.bool (q x y)))(T:l.length<=1099511627776) :
  af 37 [.sl 5 (aD l),.sl 5 (aD r),.sX f C] (.bool (uw q l r)):=by
 by_cases E:l.length=r.length
 ·have K:((((aD l).length:Nat):Int) != (((aD r).length:Nat):Int))=false:=by rw[bq,bq,E];simp
  refine qn func37 call37 λβ hf=>?_
  repeat' (first|refine rG ?_|refine zc ?_ ?_|(intro h;first|(cases h;done)|rw[h]|skip))
  refine AK.dg (α:=Nat) (λi=>i<=l.length/\uw q l r=uw q (l.drop i) (r.drop i)) (λi=>l.length-i)
   (λi=>[(17,Υ i),(16,Υ (aD l).length),(15,.c (.sl 5 (aD l))),(1,.c (.sl 5 (aD r))),(2,.c (.sX f C))]) (λ_=>[]) (λ_=>[]) [] 0
   ⟨ai,Z⟩ ce trivial trivial Z Z Z ?_
  rintro i ⟨H,W⟩ ih;rcases fU l i H with ⟨x,O,U⟩|Y
  ·have D:=mG O;obtain⟨y,V⟩:∃y,r[i]?=some y:=⟨r[i]' qv,cS⟩;have F:=M x U y (acm V);rw[cT O,cT V]at W;simp only[uw]at W;obtain⟨S,B,I,N,Q⟩:=x;obtain⟨A,u,P,J,G⟩:=y
   repeat' (first|refine rG ?_|refine zc ?_ ?_|(intro h;first|(cases h;done)|rw[h]|skip)|refine uI Z (i) Z (ff O) Z ?_|refine uI Z (i) Z (ff V) Z ?_|refine uC Z F ?_)
   rw[W];simp_all;refine AK.again (ih (i+1) ⟨bp O,?_⟩ qv) ⟨.inl (dz qv),.inl Z,.inl Z,.inl Z,.inl Z,trivial⟩ trivial trivial Z Z Z;simp_all
  have D:=j9 Y
  repeat' (first|refine rG ?_|refine zc ?_ ?_|(intro h;first|(cases h;done)|rw[h]|skip))
  rw[W,G9 q E Y]
 have K:((((aD l).length:Nat):Int) != (((aD r).length:Nat):Int)):=by rw[bq,bq];simp;omega
 rw[Cw q l r E];exact qdq func37 call37
def gC:∀t u,bh t<=1099511627776->af 26 [ct t,ct u] (.bool (cx t u))
 |.mk T V,.mk U Q,C=>by
  simp only[bh]at C;have Y:=lD V;have S:=sV V Q cx 26 [] (λx O y _=>gC x y (by have:=cN O;omega)) ai;rw[Cx]at S;refine qn func26 call26 λP hf=>?_
  repeat' (first|refine rG ?_|refine zc ?_ ?_|(intro h;first|(cases h;done)|rw[h]|skip)|refine uC Z S ?_)
  all_goals simp_all [cx]
termination_by t=>SizeOf.sizeOf t
decreasing_by
 have:=ahx O;simp at this ⊢;omega
end Go.Proofs
