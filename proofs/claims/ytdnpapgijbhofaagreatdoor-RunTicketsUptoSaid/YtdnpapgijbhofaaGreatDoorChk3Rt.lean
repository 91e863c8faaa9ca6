/- What kind.good and kind.Good, and goodType and GoodType of touchstoner -/
import Derived.Test.YtdnpapgijbhofaaGreatDoorKind5Rt
import Derived.Test.YtdnpapgijbhofaaGreatDoorTPureRt
open Go.IntKind
open Go.Proofs.Tryz
set_option linter.defProp false
set_option maxHeartbeats 0
set_option linter.unusedVariables false
set_option linter.unusedSimpArgs false
set_option maxRecDepth 100000
namespace Go.Proofs
open Go.cB
def Cd{args:L Ty}{x:Ty}(h:args[0]?=some x):gS args=eJ x:=by
 cases args with
 |nil=>simp at h
 |cons y l=>simp at h;subst h;rfl
def QG(T:Int)(args:L Ty)(d n:Int)(E:¬(d>24\/n+1>300\/arity T≠args.length)) :
  eP (.mk T args) d n=((dW args (d+1) (n+1)).1&&(if T=13\/T=15 then gS args else true),(dW args (d+1) (n+1)).2):=by
 simp only[eP];grind
def Ly(d m:Int):dW [] d m=(true,m):=rfl
def IX(T:Int)(args:L Ty)(d n:Int)(E:d>24\/n+1>300\/arity T≠args.length):eP (.mk T args) d n=(false,n+1):=by simp only[eP,if_pos E]
def IY(t:Ty)(l:L Ty)(d n:Int):dW (t::l) d n=if(eP t d n).1 then dW l d (eP t d n).2 else(false,(eP t d n).2):=by simp only[dW];grind
attribute [local irreducible] AK ai aR bW eP dW gS eJ
def Ce:∀(t:Ty)(d n:Int),bp t<=8589934593->0<=d->d<=1099511627776-bp t->0<=n->n<=300 ->
  fz 79 [.v (.c (dA t)),.v (.c (.int .i64 d)),.box [.c (.int .i64 n)]] [.c (.bool (eP t d n).1)] [(2,[.c (.int .i64 (eP t d n).2)])]
 |.mk T args=>by
  intro d n p Lz C u hn;simp only[bp]at p C;have Cf:=ig args;have W:∀x∈args,∀m:Int,0<=m->m<=300->fz 79 [.v (.c (dA x)),.v (.c (.int .i64 (i64.wrap (d+1)))),.box [.c (.int .i64 m)]] [.c (.bool (eP x (d+1) m).1)] [(2,[.c (.int .i64 (eP x (d+1) m).2)])]:=by intro x N m q h1;have:=b9 N;rw[gM bn bn];exact Ce x (d+1) m bn bn bn q h1
  have B:i64.wrap (n+1)=n+1:=gM bn bn;refine en func79 call79 [(0,.c (dA (.mk T args))),(1,.c (.int .i64 d)),(2,.ptr 1002000 0)] [(1002000,[.c (.int .i64 n)])] [] [1002000] λβ hf=>?_
  repeat' (first|refine qg ?_|refine ze ?_ ?_|(intro h;first|(cases h;done)|rw[h]|skip)|refine uC Z (tW T) ?_)
  rotate_left 6
  ·refine AK.dI (α:=Nat×Int) (λz=>z.1<=args.length/\dW args (d+1) (n+1)=dW (args.drop z.1) (d+1) z.2/\0<=z.2/\z.2<=300) (λz=>args.length-z.1)
    (λz=>[(34,.c (.int .i64 z.1)),(33,.c (.int .i64 (aj args).length)),(32,.c (.sl 2 (aj args))),(1,.c (.int .i64 d)),(2,.ptr 1002000 0),(3,.ptr 3 0)])
    (λz=>[(3,[.c (.int .i64 T),.c (.sl 2 (aj args))]),(1002000,[.c (.int .i64 z.2)])]) (λ_=>[]) [3,1002000] (0,n+1)
    ⟨bn,Z,bn,?_⟩ ce ⟨Z,aaZ (λk=>some [AV.c (CV.int .i64 k)]) B,trivial⟩ trivial Z Z Z ?_
   simp_all;rintro⟨i,m⟩ ⟨E,Y,S,M⟩ ih;simp only at E Y S M;have H:¬(d>24\/n+1>300\/arity T≠args.length):=(by rename_i g1 g2;simp only[ade,B,ada,bne_eq_false_iff_eq,aL]at g1 g2 h;rintro(K|K|K);omega;omega;exact K h);have O:=QG T args d n H;rcases eI args i E with ⟨x,N,Q⟩|G
   ·have hc:=wR N;have hq:=W x Q m S M;have A:=rD x (d+1) m M;rw[cQ N]at Y;rw[IY]at Y;obtain⟨U,us⟩:=x
    repeat' (first|refine qg ?_|refine ze ?_ ?_|(intro h;first|(cases h;done)|rw[h]|skip)|refine uI Z (i) Z (eZ N) Z ?_|refine kV ?_ (hq:=hq))
    have hf:(eP (.mk U us) (d+1) m).1=false:=(by simpa using h);rw[hf]at Y;rw[O,Y];rfl;have hf:(eP (.mk U us) (d+1) m).1=false:=(by simpa using h);rw[hf]at Y;rw[O,Y];rfl;have hf:(eP (.mk U us) (d+1) m).1=true:=(by simpa using h);rw[hf]at Y;refine AK.again (ih (i+1,(eP (.mk U us) (d+1) m).2) ⟨bh N,Y,bn,A.2.2 hf⟩ (by have:=bh N;show args.length-(i+1)<args.length-i;omega))
     ⟨.inl (ff (by have:=bh N;omega)),.inl Z,.inl Z,.inl Z,.inl Z,.inl Z,trivial⟩ ⟨Z,Z,trivial⟩ trivial Z Z Z
   have hc:=sC G;have hG:dW args (d+1) (n+1)=(true,m):=(by rw[Y,G,aaW,Ly]);rw[hG]at O;by_cases J:T=13\/T=15
   ·obtain⟨D,V⟩:∃x,args[0]?=some x:=(by have h1:arity T>=1:=(by rcases J with rfl|rfl<;>decide);have h2:0<args.length:=(by simp only[not_or,ne_eq,adg]at H;omega);exact⟨args[0],by simp[h2]⟩);have I:=kr D (by have:=b9 (aap V);omega);rw[if_pos J,Cd V]at O;clear ih W;obtain⟨U,us⟩:=D
    repeat' (first|refine qg ?_|refine ze ?_ ?_|(intro h;first|(cases h;done)|rw[h]|skip)|refine uI Z (0) Z (eZ V) Z ?_|refine uC Z I ?_)
    all_goals first
     |(show(_:L LV)=_;rw[O];first|rfl|(simp;done)|(exfalso;simp_all;done))
     |(show(_:L (Nat×L LV))=_;rw[O];done)
     |(show(_:L (Nat×L LV))=_;rw[O];rfl)
     |(exfalso;clear hf O Y;simp_all;done)
   rw[if_neg J]at O;clear ih W
   repeat' (first|refine qg ?_|refine ze ?_ ?_|(intro h;first|(cases h;done)|rw[h]|skip))
   all_goals first
    |(show(_:L LV)=_;rw[O];first|rfl|(simp;done)|(exfalso;simp_all;done))
    |(show(_:L (Nat×L LV))=_;rw[O];done)
    |(show(_:L (Nat×L LV))=_;rw[O];rfl)
    |(exfalso;clear hf O Y;simp_all;done)
  all_goals
   have P:d>24\/n+1>300\/arity T≠args.length:=by
    clear W hf
    first
    |(left;simp_all;done)
    |(right;left;simp_all;done)
    |(right;right;simp_all [aL];done)
   first
   |(show(_:L LV)=_;rw[IX T args d n P])
   |(show(_:L (Nat×L LV))=_;rw[IX T args d n P,B])
termination_by t=>SizeOf.sizeOf t
decreasing_by
 have:=abg N;simp at this ⊢;omega
end Go.Proofs
namespace Go.Proofs
open Go.cB
def E5(u Y p:Int)(s:L UInt8)(args:L Nd)(d left:Int)(h:left-1<0\/d>24\/u≠2\/Y≠0\/s≠[]\/arity p≠args.length):fo (.mk u Y p s args) d left=(none,left-1):=by simp only[fo,if_pos h]
def O5(u Y p:Int)(s:L UInt8)(args:L Nd)(d left:Int)(h:¬(left-1<0\/d>24\/u≠2\/Y≠0\/s≠[]\/arity p≠args.length)) :
  fo (.mk u Y p s args) d left=((dK args (d+1) (left-1)).1.map (.mk p),(dK args (d+1) (left-1)).2):=by
 simp only[fo,if_neg h];rcases dK args (d+1) (left-1)with ⟨b,m⟩
 cases b<;>rfl
def IZ(d m:Int):dK [] d m=(some [],m):=rfl
def Gr(t:Nd)(l:L Nd)(d n:Int):dK (t::l) d n=match (fo t d n).1 with
  |some y=>((dK l d (fo t d n).2).1.map (y :: ·),(dK l d (fo t d n).2).2)
  |none=>(none,(fo t d n).2):=by
 simp only[dK];rcases fo t d n with ⟨b,m⟩
 cases b with
 |none=>rfl
 |some y =>
  simp only;rcases dK l d m with ⟨r,S⟩
  cases r<;>rfl
def ew{l:L Nd}{i:Nat}{x:Nd}(h:l[i]?=some x):(aD l)[i]?=some (aS x):=by rw[Cg,h];rfl
def l8{l:L Nd}{i:Nat}{x:Nd}(h:l[i]?=some x):decide (((i:Nat):Int)<(((aD l).length:Nat):Int))=true:=dec_lt (by have:=bh h;rw[bf];omega)
def jH{l:L Nd}{i:Nat}(h:i=l.length):decide (((i:Nat):Int)<(((aD l).length:Nat):Int))=false:=Gs (by rw[bf];omega)
def jw:∀(a:L Ty)(b:L Ty),aj (a++b)=aj a++aj b
 |[],b=>rfl
 |t::a,b=>by simp[aj,jw a b]
def kX:∀(a:L Nd)(b:L Nd),aD (a++b)=aD a++aD b
 |[],b=>rfl
 |t::a,b=>by simp[aD,kX a b]
def ku{i:Nat}(h:i<1099511627776):AV.c (CV.int .i64 (i64.wrap ((i:Int)+1)))=AV.c (CV.int .i64 ((i+1:Nat):Int)):=by rw[gM bn bn];rfl
def E6:Option Ty->Ty
 |some t=>t
 |none => .mk 0 []
attribute [local irreducible] AK ai aR bW eP dW gS eJ fo dK
def mY(t:Ty)(A:bp t<=8589934593):af 58 [dA t] (.bool (bg t)):=by
 have hq:=Ce t 1 0 A bn bn bn bn;obtain⟨T,args⟩:=t;refine qn func58 call58 λβ hf=>?_
 repeat' (first|refine qg ?_|refine kV ?_ (hq:=hq))
 rfl
def AM:∀(n:Nd)(d left:Int),bR n<=8589934593->0<=d->d<=1099511627776-bR n->0<=left->left<=300 ->
  fz 142 [.v (.c (aS n)),.v (.c (.int .i64 d)),.box [.c (.int .i64 left)]] [.c (dA (E6 (fo n d left).1)),.c (.bool (fo n d left).1.isSome)] [(2,[.c (.int .i64 (fo n d left).2)])]
 |.mk u T p s args=>by
  intro d left H Lz D G hn;simp only[bR]at H D;have Cf:=gA args;have W:∀x∈args,∀m:Int,0<=m->m<=300->fz 142 [.v (.c (aS x)),.v (.c (.int .i64 (i64.wrap (d+1)))),.box [.c (.int .i64 m)]] [.c (dA (E6 (fo x (d+1) m).1)),.c (.bool (fo x (d+1) m).1.isSome)] [(2,[.c (.int .i64 (fo x (d+1) m).2)])]:=by intro x O m C h1;have:=eR O;rw[gM bn bn];exact AM x (d+1) m bn bn bn C h1
  have B:i64.wrap (left-1)=left-1:=gM bn bn;refine en func142 call142 [(0,.c (aS (.mk u T p s args))),(1,.c (.int .i64 d)),(2,.ptr 1002000 0)] [(1002000,[.c (.int .i64 left)])] [] [1002000] λβ hf=>?_
  repeat' (first|refine qg ?_|refine ze ?_ ?_|(intro h;first|(cases h;done)|rw[h]|skip)|refine uC Z (tW p) ?_|(refine uA Z ?_ ?_<;>(try (show(_:Nat)*_<=_;dsimp only))))
  rotate_left 12
  ·refine AK.fQ [(6,6),(8,8),(1002000,1002000)] [(8000,(0,none))] (env':=[(57,.c (.int .i64 (0:Nat))),(56,.c (.int .i64 (aD args).length)),(55,.c (.sl 5 (aD args))),(1,.c (.int .i64 d)),(2,.ptr 1002000 0),(6,.ptr 6 0),(8,.ptr 8 0)])
    (bs':=[(6,[.c (.int .i64 0),.own .exact 2 []]),(8,[.c (.int .i64 p),.own (.tok 8000 0) 2 []]),(1002000,[.c (.int .i64 (left-1))])]) (ts':=[(8000,0)]) (us':=[6,8,1002000,8000])
    ce 
    ⟨ce,ce,⟨_,_,Z,Z,⟨_,_,Z,.inl (aaZ (λk=>AV.c (.int .i64 k)) B),Z⟩⟩,trivial⟩ Z ?_
   refine AK.dI (α:=Nat×L Ty×Int) (λz=>z.1<=args.length/\z.1=z.2.1.length/\dK args (d+1) (left-1)=((dK (args.drop z.1) (d+1) z.2.2).1.map (z.2.1 ++ ·),(dK (args.drop z.1) (d+1) z.2.2).2)/\0<=z.2.2/\z.2.2<=300) (λz=>args.length-z.1)
    (λz=>[(57,.c (.int .i64 z.1)),(56,.c (.int .i64 (aD args).length)),(55,.c (.sl 5 (aD args))),(1,.c (.int .i64 d)),(2,.ptr 1002000 0),(6,.ptr 6 0),(8,.ptr 8 0)])
    (λz=>[(6,[.c (.int .i64 0),.own .exact 2 []]),(8,[.c (.int .i64 p),.own (.tok 8000 0) 2 (aj z.2.1)]),(1002000,[.c (.int .i64 z.2.2)])]) (λ_=>[(8000,0)]) [6,8,1002000,8000] (0,[],left-1)
    ⟨bn,Z,c9,?_,by show left-1<=300;omega⟩ ce ⟨Z,Z,Z,trivial⟩ ⟨Z,trivial⟩ Z Z Z ?_
   have:¬(left-1<0):=(by simp_all);show 0<=left-1;omega;rintro⟨i,acc,m⟩ ⟨E,M,Y,V,K⟩ ih;simp only at E M Y V K;have q:¬(left-1<0\/d>24\/u≠2\/T≠0\/s≠[]\/arity p≠args.length):=(by clear ih W hf;simp_all [bf]);have S:=O5 u T p s args d left q;rcases eI args i E with ⟨x,O,Q⟩|J
   ·have hc:=l8 O;have hq:=W x Q m V K;have A:=E7 x (d+1) m V;rw[cQ O,Gr]at Y;rcases hr:fo x (d+1) m with ⟨b,N⟩
    rw[hr]at hq A Y;obtain⟨xk,xn,xp,xs,xa⟩:=x;cases b with
    |none =>
     simp only[E6,Option.isSome_none]at hq Y
     repeat' (first|refine qg ?_|refine ze ?_ ?_|(intro h;first|(cases h;done)|rw[h]|skip)|refine uI Z (i) Z (ew O) Z ?_|refine kV ?_ (hq:=hq)|(refine uA Z ?_ ?_<;>(try (show(_:Nat)*_<=_;dsimp only))))
     rw[S,Y];rfl;rw[S,Y]
    |some y =>
     obtain⟨U,us⟩:=y;simp only[E6,Option.isSome_some]at hq Y
     repeat' (first|refine qg ?_|refine ze ?_ ?_|(intro h;first|(cases h;done)|rw[h]|skip)|refine uI Z (i) Z (ew O) Z ?_|refine kV ?_ (hq:=hq)|(refine uA Z ?_ ?_<;>(try (show(_:Nat)*_<=_;dsimp only))))
     have h1:=aL acc;have h2:=bh O;simp only[aaa,aab];omega;have I:aj acc++[dA (.mk U us)]=aj (acc++[Ty.mk U us]):=(jw acc [.mk U us]).symm;refine AK.fQ [(6,6),(8,8),(1002000,1002000)] [(8000,(0,some 8000))] (env':=[(57,.c (.int .i64 ((i+1:Nat):Int))),(56,.c (.int .i64 (aD args).length)),(55,.c (.sl 5 (aD args))),(1,.c (.int .i64 d)),(2,.ptr 1002000 0),(6,.ptr 6 0),(8,.ptr 8 0)])
      (bs':=[(6,[.c (.int .i64 0),.own .exact 2 []]),(8,[.c (.int .i64 p),.own (.tok 8000 0) 2 (aj (acc++[Ty.mk U us]))]),(1002000,[.c (.int .i64 N)])]) (ts':=[(8000,0)]) (us':=[6,8,1002000,8000])
      ⟨⟨_,Z,.inl (ku (i:=i) Z1)⟩,⟨_,Z,.inl Z⟩,⟨_,Z,.inl Z⟩,⟨_,Z,.inl Z⟩,⟨_,Z,⟨_,Z,Z⟩⟩,⟨_,Z,⟨_,Z,Z⟩⟩,⟨_,Z,⟨_,Z,Z⟩⟩,trivial⟩
      ⟨ce,⟨_,_,Z,Z,⟨_,_,Z,.inl Z,⟨_,_,Z,⟨_,Z,.inr ⟨_,_,Z,Z,aaZ (AV.own (.tok 8000 1) 2) I⟩⟩,Z⟩⟩⟩,ce,trivial⟩ Z ?_
     refine ih (i+1,acc++[Ty.mk U us],N) ⟨bh O,by simp[M],?_,?_,?_⟩ (by have:=bh O;show args.length-(i+1)<args.length-i;omega)
     ·show dK args (d+1) (left-1)=_;rw[Y];rcases dK (List.drop (i+1) args) (d+1) N with ⟨r,m2⟩
      cases r<;>simp
     exact A.2.2 c9;have:=A.1;show N<=300;simp only at this;omega
   have hc:=jH J;have hG:dK args (d+1) (left-1)=(some acc,m):=(by rw[Y,J,aaW,IZ];simp);rw[hG]at S;clear ih W
   repeat' (first|refine qg ?_|refine ze ?_ ?_|(intro h;first|(cases h;done)|rw[h]|skip)|(refine uA Z ?_ ?_<;>(try (show(_:Nat)*_<=_;dsimp only))))
   rw[S];rfl;rw[S]
  all_goals
   have P:left-1<0\/d>24\/u≠2\/T≠0\/s≠[]\/arity p≠args.length:=by
    clear W hf
    first
    |(left;simp_all;done)
    |(right;left;simp_all;done)
    |(right;right;left;simp_all;done)
    |(right;right;right;left;simp_all;done)
    |(right;right;right;right;left;simp_all;done)
    |(right;right;right;right;right;simp_all [bf];done)
   first
   |(show(_:L LV)=_;rw[E5 u T p s args d left P];rfl)
   |(show(_:L (Nat×L LV))=_;rw[E5 u T p s args d left P,B])
termination_by t=>SizeOf.sizeOf t
decreasing_by
 have:=abg O;simp at this ⊢;omega
end Go.Proofs
namespace Go.Proofs
open Go.cB
mutual
def tX:∀(n:Nd)(d left:Int)(t:Ty)(m:Int),fo n d left=(some t,m)->bp t<=bR n
 |.mk u Y p s args,d,left,t,m,h=>by
  simp only[fo]at h;split at h;simp at h;rcases E:dK args (d+1) (left-1)with ⟨b,S⟩
  rw[E]at h;cases b with
  |none=>simp at h
  |some l =>
   simp at h;have:=xY args (d+1) (left-1) l S E;rw[<- h.1];simp only[bp,bR];omega
def xY:∀(l:L Nd)(d left:Int)(r:L Ty)(m:Int),dK l d left=(some r,m)->aU r<=aM l
 |[],d,left,r,m,h=>by simp[dK]at h;rw[h.1];simp[aU]
 |x::l,d,left,r,m,h=>by
  simp only[dK]at h;rcases E:fo x d left with ⟨b,S⟩
  rw[E]at h;cases b with
  |none=>simp at h
  |some t =>
   simp only at h;rcases H:dK l d S with ⟨M,P⟩
   rw[H]at h;cases M with
   |none=>simp at h
   |some q =>
    simp at h;have h1:=tX x d left t S E;have h2:=xY l d S q P H;rw[<- h.1];simp only[aU,aM];omega
end
attribute [local irreducible] AK ai aR bW eP dW gS eJ fo dK bg
def jT(n:Nd)(O:bR n<=8589934593):af 117 [aS n] (.fG [dA (aO n).1,.int .i64 (aO n).2]):=by
 have hq:=AM n 1 300 O bn bn bn bn;rcases A:fo n 1 300 with ⟨b,m⟩
 rw[A]at hq;have Y:=tX n 1 300;rw[A]at Y;cases b with
 |none =>
  have T:aO n=(.mk 0 [],1):=by simp only[aO,A]
  rw[T];simp only[E6,Option.isSome_none]at hq;obtain⟨k,a,p,s,l⟩:=n;refine qn func117 call117 λβ hf=>?_
  repeat' (first|refine qg ?_|refine zc ?_ ?_|(intro h;first|(cases h;done)|rw[h]|skip)|refine kV ?_ (hq:=hq))
  rfl
 |some t =>
  have Q:=mY t (abJ (Y t m Z) O);have T:aO n=if bg t then(t,0)else(.mk 0 [],1):=by simp only[aO,A]
  rw[T];obtain⟨U,us⟩:=t;simp only[E6,Option.isSome_some]at hq;obtain⟨k,a,p,s,l⟩:=n;cases W:bg (.mk U us)
  all_goals
   rw[W]at Q;refine qn func117 call117 λβ hf=>?_
   repeat' (first|refine qg ?_|refine zc ?_ ?_|(intro h;first|(cases h;done)|rw[h]|skip)|refine kV ?_ (hq:=hq)|refine uC Z Q ?_)
   rfl
end Go.Proofs
namespace Go.Proofs
open Go.cB
attribute [local irreducible] AK ai aR bW
def Et{α:Type}(q:α->α->Bool):List α->List α->Bool
 |[],[]=>true
 |x::l,y::r=>q x y&&Et q l r
 |_,_=>false
def I0{α:Type}(q:α->α->Bool):∀(l r:List α),l.length≠r.length->Et q l r=false
 |[],[],h=>by simp at h
 |[],_::_,_=>rfl
 |_::_,[],_=>rfl
 |x::l,y::r,h=>by simp[Et,I0 q l r nW]
def Ci:∀(l r:L Ty),Et cw l r=gO l r
 |[],[]=>rfl
 |[],_::_=>rfl
 |_::_,[]=>rfl
 |x::l,y::r=>by simp[Et,gO,Ci l r]
def QH{α:Type}(q:α->α->Bool){l r:List α}{i:Nat}(h:l.length=r.length)(W:i=l.length):Et q (l.drop i) (r.drop i)=true:=by subst W;rw[aaW,h,aaW];rfl
def tY(l r:L Ty)(q:Ty->Ty->Bool)(f:FuncId)(W:L CV)(D:∀x∈l,∀y∈r,af f (dA x::dA y::W) (.bool (q x y)))(K:l.length<=1099511627776) :
  af 71 [.sl 2 (aj l),.sl 2 (aj r),.tO f W] (.bool (Et q l r)):=by
 by_cases V:l.length=r.length
 ·have H:((((aj l).length:Nat):Int) != (((aj r).length:Nat):Int))=false:=by rw[aL,aL,V];simp
  refine qn func71 call71 λβ hf=>?_
  repeat' (first|refine qg ?_|refine zc ?_ ?_|(intro h;first|(cases h;done)|rw[h]|skip))
  refine AK.dI (α:=Nat) (λi=>i<=l.length/\Et q l r=Et q (l.drop i) (r.drop i)) (λi=>l.length-i)
   (λi=>[(17,.c (.int .i64 i)),(16,.c (.int .i64 (aj l).length)),(15,.c (.sl 2 (aj l))),(1,.c (.sl 2 (aj r))),(2,.c (.tO f W))]) (λ_=>[]) (λ_=>[]) [] 0
   ⟨bn,Z⟩ ce trivial trivial Z Z Z ?_
  rintro i ⟨E,Y⟩ ih;rcases eI l i E with ⟨x,O,u⟩|A
  ·have S:=wR O;obtain⟨y,G⟩:∃y,r[i]?=some y:=⟨r[i]' Z1,c9⟩;have hq:=D x u y (aap G);rw[cQ O,cQ G]at Y;simp only[Et]at Y;obtain⟨T,args⟩:=x;obtain⟨U,us⟩:=y
   repeat' (first|refine qg ?_|refine zc ?_ ?_|(intro h;first|(cases h;done)|rw[h]|skip)|refine uI Z (i) Z (eZ O) Z ?_|refine uI Z (i) Z (eZ G) Z ?_|refine uC Z hq ?_)
   rw[Y];simp_all;refine AK.again (ih (i+1) ⟨bh O,?_⟩ Z1) ⟨.inl (ff Z1),.inl Z,.inl Z,.inl Z,.inl Z,trivial⟩ trivial trivial Z Z Z;simp_all
  have S:=sC A
  repeat' (first|refine qg ?_|refine zc ?_ ?_|(intro h;first|(cases h;done)|rw[h]|skip))
  rw[Y,QH q V A]
 have H:((((aj l).length:Nat):Int) != (((aj r).length:Nat):Int))=true:=by rw[aL,aL];simp;omega
 rw[I0 q l r V];exact qdq func71 call71
def gJ:∀(t u:Ty),bp t<=1099511627776->af 50 [dA t,dA u] (.bool (cw t u))
 |.mk T args,.mk U us,A=>by
  simp only[bp]at A;have Y:=ig args;have hq:=tY args us cw 50 [] (λx O y _=>gJ x y (by have:=b9 O;omega)) bn;rw[Ci]at hq;refine qn func50 call50 λβ hf=>?_
  repeat' (first|refine qg ?_|refine zc ?_ ?_|(intro h;first|(cases h;done)|rw[h]|skip)|refine uC Z hq ?_)
  all_goals simp_all [cw]
termination_by t=>SizeOf.sizeOf t
decreasing_by
 have:=abg O;simp at this ⊢;omega
end Go.Proofs
namespace Go.Proofs
open Go.cB
attribute [local irreducible] AK ai aR bW
def fL(r:CR):CV:=if r.2=0 then .fG [.agg [.sl 2 (aj r.1.1),.bool r.1.2],.int .i64 0]else .fG [.agg [.any,.any],.int .i64 r.2]
def tu(r:CR):CV := .fG [.agg [.sl 2 (aj r.1.1),.bool r.1.2],.int .i64 r.2]
def I1(s:L Ty)(b:Bool):fL ((s,b),0) = .fG [.agg [.sl 2 (aj s),.bool b],.int .i64 0]:=rfl
def ep(s:L Ty):fL (eB s) = .fG [.agg [.sl 2 (aj s),.bool false],.int .i64 0]:=rfl
def cT{e:Int}(h:e≠0):fL (aX e) = .fG [.agg [.any,.any],.int .i64 e]:=by unfold fL aX;rw[if_neg h]
def iO(e:Int):tu (aX e) = .fG [.agg [.sl 2 [],.bool false],.int .i64 e]:=rfl
def aaT{r:CR}:Wk (tu r) (fL r):=by unfold tu fL;by_cases h:r.2=0;rw[if_pos h,h];exact Wk.refl _;rw[if_neg h];exact zz rfl rfl
def tZ:∀(n:Nat)(l:L Ty),(aj l).drop n=aj (l.drop n)
 |0,l=>rfl
 |n+1,[]=>rfl
 |n+1,x::l=>by simp only[aj,acW,tZ n l]
def dx(T:Int)(l:L Ty):af 69 [.int .i64 T,.sl 2 (aj l)] (dA (.mk T l)):=by exact qdw func69 call69
def cC(T:Int):af 69 [.int .i64 T,.sl 0 []] (dA (.mk T [])) :=
 aR.wk u5 (Wk.refl _) (dx T [])
def eG(l:L Ty)(V:l.length<=1099511627776):fz 60 [.v (.c (.sl 2 (aj l)))] [.own 2 (aj l)] []:=by
 cases l with
 |nil =>
  refine en func60 call60 [(0,.c (.sl 2 []))] [] [] [] λβ hf=>?_
  repeat' (first|refine kW ?_|refine ze ?_ ?_|(intro h;first|(cases h;done)|rw[h]|skip)|refine AK.pe Z ?_ ?_|(refine uA Z ?_ ?_<;>(try (show(_:Nat)*_<=_;dsimp only))))
  all_goals first|exact Z|(show _<=_;decide)
 |cons x l =>
  have h1:=aL l;simp only[aaa]at V;refine en func60 call60 [(0,.c (.sl 2 (dA x::aj l)))] [] [] [] λβ hf=>?_
  repeat' (first|refine kW ?_|refine ze ?_ ?_|(intro h;first|(cases h;done)|rw[h]|skip)|refine AK.pe Z ?_ ?_|(refine uA Z ?_ ?_<;>(try (show(_:Nat)*_<=_;dsimp only))))
  all_goals first|exact Z|(show _<=_;simp only[aaa,aab];omega)
def mZ(s l:L Ty)(C:s.length<=20000000000:=by first|omega|(simp only[aaa,aab]at *;omega))(V:l.length<=20000000000:=by simp):af 124 [.sl 2 (aj s),.sl 2 (aj l)] (fL (eB (l++s))):=by rw[ep,jw];have h1:=eG l bn;have h2:=aL l;have U:=aL s;exact qdw func124 call124
def AN(s:L Ty)(C:s.length<=20000000000:=by first|omega|(simp only[aaa,aab]at *;omega)):af 124 [.sl 2 (aj s),.sl 0 []] (fL (eB s)) :=
 aR.wk u5 (Wk.refl _) (mZ s [] C c9)
def AO(a b:L Ty)(W:qj a)(V:a.length<=20000000000):af 70 [.sl 2 (aj a),.sl 2 (aj b)] (.bool (gO a b)):=by have h1:=tY a b cw 50 [] (λx O y _=>gJ x y (by have:=(W x O).2;omega)) bn;rw[Ci]at h1;exact qdw func70 call70
def ij(a b:CR)(W:qj a.1.1)(V:a.1.1.length<=20000000000):af 150
  [.agg [.sl 2 (aj a.1.1),.bool a.1.2],.int .i64 a.2,.agg [.sl 2 (aj b.1.1),.bool b.1.2],.int .i64 b.2] (tu (cn a b)):=by
 have h1:=AO a.1.1 b.1.1 W V;obtain⟨⟨s,p⟩,e⟩:=a;obtain⟨⟨t,q⟩,f⟩:=b;simp only at h1 W V ⊢;unfold cn;dsimp only;by_cases A:e≠0
 ·rw[if_pos A,iO];have B:(e != 0)=true:=by simpa using A
  clear h1;exact qdw func150 call150
 rw[if_neg A];obtain rfl:e=0:=by simpa using A
 by_cases Y:f≠0
 ·rw[if_pos Y,iO];have B:(f != 0)=true:=by simpa using Y
  clear h1;exact qdw func150 call150
 rw[if_neg Y];obtain rfl:f=0:=by simpa using Y
 cases p with
 |true =>
  rw[if_pos rfl];clear h1;exact qdw func150 call150
 |false =>
 rw[if_neg cc];cases q with
 |true =>
  rw[if_pos (.inl Z)];clear h1;exact qdw func150 call150
 |false =>
 cases C:gO s t with
 |true =>
  rw[if_pos (.inr Z)];rw[C]at h1;exact qdw func150 call150
 |false =>
  rw[if_neg c9,iO];rw[C]at h1;exact qdw func150 call150
def LB:L Ty->L Int->Bool
 |_,[]=>true
 |[],_::_=>false
 |t::s,k::l=>(decide (k=0)||decide (cq t=k))&&LB s l
def NY(T:Int)(us s:L Ty)(k:Int)(l:L Int):LB (.mk T us::s) (k::l)=((decide (k=0)||decide (T=k))&&LB s l):=rfl
def NZ(k:Int)(l:L Int):LB [] (k::l)=false:=rfl
def wS(l:L CV)(n:Int)(h:n<((l.length:Nat):Int)):decide (((l.length:Nat):Int)>n)=true:=aam h
def E8:∀(s:L Ty)(l:L Int),s.length<l.length->LB s l=false
 |_,[],h=>by simp at h
 |[],_::_,_=>rfl
 |t::s,k::l,h=>by simp only[LB,E8 s l nW,Bool.and_false]
def WI{s:L Ty}{l:L Int}{t:Ty}{k:Int}{i:Nat}(h1:s[i]?=some t)(h2:l[i]?=some k):LB (s.drop i) (l.drop i)=((decide (k=0)||decide (cq t=k))&&LB (s.drop (i+1)) (l.drop (i+1))):=by rw[cQ h1,cQ h2];rfl
def xZ(s:L Ty):LB s []=true:=by cases s<;>rfl
def x8(s:L Ty)(l:L Int)(C:s.length<=10000000000:=by first|omega|(simp only[aaa,aab]at *;omega))(O:l.length<=10000000000:=by decide):af 149 [.sl 2 (aj s),.sl 1 (jf l)] (.bool (LB s l)):=by
 have W:=aL s;have B:(jf l).length=l.length:=by simp[jf]
 by_cases D:s.length<l.length;rw[E8 s l D];have S:decide ((((aj s).length:Nat):Int)<(((jf l).length:Nat):Int))=true:=aam (by rw[W,B];omega);exact qdw func149 call149;have S:decide ((((aj s).length:Nat):Int)<(((jf l).length:Nat):Int))=false:=aan (by rw[W,B];omega);refine qn func149 call149 λβ hf=>?_
 repeat' (first|refine kW ?_|refine zc ?_ ?_|(intro h;first|(cases h;done)|rw[h]|skip))
 refine AK.dI (α:=Nat) (λi=>i<=l.length/\LB s l=LB (s.drop i) (l.drop i)) (λi=>l.length-i)
  (λi=>[(14,.c (.int .i64 i)),(13,.c (.int .i64 (jf l).length)),(12,.c (.sl 1 (jf l))),(0,.c (.sl 2 (aj s)))]) (λ_=>[]) (λ_=>[]) [] 0
  ⟨bn,Z⟩ ce trivial trivial Z Z Z ?_
 rintro i ⟨Q,U⟩ ih;rcases eI l i Q with ⟨k,E,u⟩|V
 ·have D:=Us E;have h2:=bh E;obtain⟨t,A⟩:∃t,s[i]?=some t:=⟨s[i]' bn,c9⟩;rw[WI A E]at U;obtain⟨T,us⟩:=t;by_cases Y:k=0
  ·subst Y;rw[aam Z,Bool.true_or,abq]at U
   repeat' (first|refine kW ?_|refine zc ?_ ?_|(intro h;first|(cases h;done)|rw[h]|skip)|refine uI Z (i) Z (ints_at E) Z ?_|refine uI Z (i) Z (eZ A) Z ?_)
   refine AK.again (ih (i+1) ⟨h2,U⟩ bn) ⟨.inl (ff bn),.inl Z,.inl Z,.inl Z,trivial⟩ trivial trivial Z Z Z
  have N:(k != 0)=true:=by simpa using Y
  by_cases q:T=k
  ·have P:(T != k)=false:=(by simpa using q);rw[aam (show cq (.mk T us)=k from q),Bool.or_true,abq]at U
   repeat' (first|refine kW ?_|refine zc ?_ ?_|(intro h;first|(cases h;done)|rw[h]|skip)|refine uI Z (i) Z (ints_at E) Z ?_|refine uI Z (i) Z (eZ A) Z ?_)
   refine AK.again (ih (i+1) ⟨h2,U⟩ bn) ⟨.inl (ff bn),.inl Z,.inl Z,.inl Z,trivial⟩ trivial trivial Z Z Z
  have P:(T != k)=true:=by simpa using q
  rw[aan (show ¬cq (.mk T us)=k from q),aan Y,Bool.or_false,abn]at U;rw[U];clear ih;have K:=ints_at E;have J:=eZ A;exact dw
 have D:=QI V;have M:LB s l=true:=by rw[U,V,aaW,xZ]
 rw[M];clear ih;exact dw
end Go.Proofs
namespace Go.cB
def vn(w a:Nat):(BitVec.ofInt w (a:Int)).toNat=a%2^w:=by rw[BitVec.ofInt_natCast,BitVec.toNat_ofNat]
def N0{a:Nat}(h:a<9223372036854775808)(k:Nat)(E:k<63):i64.wrap (((BitVec.ofInt 64 (a:Int))&&&(BitVec.ofInt 64 ((2^k-1:Nat):Int))).toNat)=((a%2^k:Nat):Int):=by have h2:(2:Nat)^k<=2^62:=adD bn bn;have U:0<(2:Nat)^k:=Nat.pow_pos bn;rw[BitVec.toNat_and,vn,vn,adk (show a<2^64 by omega),adk (show 2^k-1<2^64 by omega),adM];have P:a%2^k<2^k:=Nat.mod_lt _ U;exact gM bn bn
def I2{a:Nat}(h:a<9223372036854775808):i64.wrap (((BitVec.ofInt 64 (a:Int))&&&(BitVec.ofInt 64 63)).toNat)=((a%64:Nat):Int):=N0 h 6 (by omega)
def QJ{a:Nat}(h:a<9223372036854775808):i64.wrap (((BitVec.ofInt 64 (a:Int))&&&(BitVec.ofInt 64 127)).toNat)=((a%128:Nat):Int):=N0 h 7 (by omega)
def LC{a:Nat}(h:a<256):IntKind.u8.wrap (a:Int)=a:=by have:=ng (a:Int);rw[iA a h]at this;exact this.symm
def WJ:∀c:Fin 128,IntKind.u8.wrap (((BitVec.ofInt 8 ((c.val:Nat):Int))|||(BitVec.ofInt 8 128)).toNat)=((c.val+128:Nat):Int):=by decide +kernel
def Yx{c:Nat}(h:c<128):IntKind.u8.wrap (((BitVec.ofInt 8 (c:Int))|||(BitVec.ofInt 8 128)).toNat)=((c+128:Nat):Int):=WJ ⟨c,h⟩
def Ut:∀x:Fin 64,IntKind.u8.wrap (((BitVec.ofInt 8 64)|||(BitVec.ofInt 8 ((x.val:Nat):Int))).toNat)=((64+x.val:Nat):Int):=by decide +kernel
def or_none:∀x:Fin 64,IntKind.u8.wrap (((BitVec.ofInt 8 0)|||(BitVec.ofInt 8 ((x.val:Nat):Int))).toNat)=((0+x.val:Nat):Int):=by decide +kernel
def O6:∀c:Fin 256,(i64.wrap (((BitVec.ofInt 64 ((c.val:Nat):Int))&&&(BitVec.ofInt 64 64)).toNat) != 0)=decide (c.val/64%2=1):=by decide +kernel
def QK{c:Nat}(h:c<256):(i64.wrap (((BitVec.ofInt 64 (c:Int))&&&(BitVec.ofInt 64 64)).toNat) != 0)=decide (c/64%2=1):=O6 ⟨c,h⟩
def QL{n x p:Nat}(O:n<2^p)(N:x<128)(C:p<=55):i64.wrap (((BitVec.ofInt 64 (n:Int))|||(BitVec.ofInt 64 (i64.wrap ((x:Int)*2^(min p 64))))).toNat)=((n+x*2^p:Nat):Int):=by
 have h2:(2:Nat)^p<=2^55:=adD bn C;have U:x*2^p<=127*2^55:=Nat.mul_le_mul bn h2;have e:(x:Int)*2^(min p 64)=((x*2^p:Nat):Int):=by rw[adP bn];simp
 rw[e,gM (n:=((x*2^p:Nat):Int)) bn bn,BitVec.toNat_or,vn,vn,adk (show n<2^64 by omega),adk (show x*2^p<2^64 by omega)];rw[Nat.or_comm,<- Nat.shiftLeft_eq,<- Nat.shiftLeft_add_eq_or_of_lt O x,Nat.shiftLeft_eq,Nat.add_comm];exact gM bn bn
def N1(a k:Nat):(a:Int).fdiv (2^k)=((a/2^k:Nat):Int):=by rw[ado _ (by exact Int.le_of_lt (Int.pow_pos bn))];simp
end Go.cB
namespace Go.Proofs
open Go.cB
attribute [local irreducible] AK ai aR bW aO
def Gt(p:Int):af 121 [.int .i64 p] (.str (fF p)):=by
 refine qn func121 call121 λβ hf=>?_
 repeat' (first|refine kW ?_|refine zc ?_ ?_|(intro h;first|(cases h;done)|rw[h]|skip))
 all_goals
  clear hf;refine Wk.of_eq (aaZ CV.str ?_);unfold fF;simp_all
def four(a:Int):a=3\/a=4\/a=5\/((a==3)=false/\(a==4)=false/\(a==5)=false):=by grind
def LD(p a b:Int)(D:p=69\/p=70\/p=71\/p=72):af 151 [.int .i64 p,.int .i64 a,.int .i64 b] (.int .i64 (kY p a b)):=by
 rcases D with rfl|rfl|rfl|rfl<;>rcases four a with rfl|rfl|rfl|⟨W,B,Y⟩<;>rcases four b with rfl|rfl|rfl|⟨V,M,P⟩
 all_goals
  refine qn func151 call151 λβ hf=>?_
  repeat' (first|refine kW ?_|refine zc ?_ ?_|(intro h;first|(cases h;done)|rw[h]|skip))
  all_goals
   clear hf;refine Wk.of_eq (aaZ (CV.int .i64) ?_);unfold kY;simp_all
def Ev(l:L Nd)(p:Nd->Bool)(f:FuncId)(U:L CV)(D:∀x∈l,af f (aS x::U) (.bool (p x)))(T:l.length<=1099511627776) :
  af 114 [.sl 5 (aD l),.tO f U] (.int .i64 (idxOf p l)):=by
 refine qn func114 call114 λβ hf=>?_;refine AK.LF hX mixed 300 Z ?_;refine AK.dI (α:=Nat) (λi=>i<=l.length/\∀(j:Nat) x,j<i->l[j]?=some x->p x=false) (λi=>l.length-i)
  (λi=>[(8,.c (.int .i64 i)),(7,.c (.int .i64 (aD l).length)),(0,.c (.sl 5 (aD l))),(1,.c (.tO f U))]) (λ_=>[]) (λ_=>[]) [] 0
  ⟨bn,by intro j x h;omega⟩ ce trivial trivial Z Z Z ?_
 rintro i ⟨E,W⟩ ih;rcases eI l i E with ⟨x,O,u⟩|S
 ·have Q:=l8 O;have hq:=D x u;have h2:=bh O;cases A:p x with
  |true =>
   rw[A]at hq;rw[ua p l i x O A W];obtain⟨q,I,P,N,M⟩:=x;clear ih;have H:=ew O;exact dw
  |false =>
   rw[A]at hq
   have K:=ih (i+1) ⟨bn,λj y C Y=>by
    by_cases V:j=i;subst V;rw[O]at Y;simp at Y;subst Y;exact A
    exact W j y bn Y⟩ bn
   obtain⟨q,I,P,N,M⟩:=x
   repeat' (first|refine kW ?_|refine zc ?_ ?_|(intro h;first|(cases h;done)|rw[h]|skip)|refine uI Z (i) Z (ew O) Z ?_|refine uC Z hq ?_)
   refine AK.again K ⟨.inl ?_,.inl Z,.inl Z,.inl Z,trivial⟩ trivial trivial Z Z Z;rw[gM bn bn];rfl
 have Q:=jH S
 have J:idxOf p l = -1:=wU p l (λj y G=>by
  have:=bh G
  exact W j y bn G)
 rw[J];clear ih;exact dw
def zA(l:L Nd)(p:Nd->Bool)(f:FuncId)(U:L CV)(D:∀x∈l,af f (aS x::U) (.bool (p x)))(T:l.length<=1099511627776) :
  af 96 [.sl 5 (aD l),.tO f U] (.bool (l.any p)):=by
 refine qn func96 call96 λβ hf=>?_
 repeat' (first|refine kW ?_|refine uC Z (Ev l p f U D T) ?_)
 all_goals exact Wk.of_eq (aaZ CV.bool (zB p l))
def Ck:∀(l:L Nd),iB l=l.any I3
 |[]=>rfl
 |x::l=>by simp only[iB,adt,Ck l]
def uc(l:L Nd)(V:aM l<=1099511627776):af 73 [.sl 5 (aD l)] (.bool (iB l)):=by
 have O:∀x∈l,af 97 [aS x] (.bool (I3 x)):=by
  rintro⟨k,n,p,s,xs⟩ hx;have Y:=eR hx;simp only[bR]at Y;have W:=uc xs bn;unfold I3;by_cases E:k=2;subst E;by_cases D:p=84;subst D;rw[aam ⟨Z,Z⟩];exact qdw func97 call97;rw[aan (λh=>D h.2)];have B:(p==84)=false:=(by simpa using D);exact qdw func97 call97;rw[aan (λh=>E h.1)];have B:(k==2)=false:=by simpa using E
  exact qdw func97 call97
 have T:=gA l;have h1:=zA l I3 97 [] O bn;rw[<- Ck]at h1;exact qdw func73 call73
termination_by SizeOf.sizeOf l
decreasing_by
 have:=abg hx;simp at this ⊢;omega
end Go.Proofs
namespace Go.Proofs
open Go.cB
attribute [local irreducible] AK ai aR bW aO
def LG{p:Int}{w:UInt8}(h:w∈fF p):w=110\/w=99\/w=116\/w=118:=by
 unfold fF at h
 repeat' (split at h)
 all_goals simp at h
 all_goals (try (rcases h with h|h|h))
 all_goals (try (rcases h with h|h))
 all_goals (try subst h)
 all_goals simp
def QM(l:L Nd)(acc:L Ty):iX [] l acc=some acc:=by unfold iX;rfl
def WK(Y:L UInt8)(u N P:Int)(S:L UInt8)(xs l:L Nd)(acc:L Ty):iX (110::Y) (.mk u N P S xs::l) acc=if u=0/\0<=N/\N<=40 then iX Y l acc else none:=by
 conv=>lhs;unfold iX
 rw[if_pos rfl]
def WL(Y:L UInt8)(u N P:Int)(S:L UInt8)(xs l:L Nd)(acc:L Ty):iX (99::Y) (.mk u N P S xs::l) acc=if u=3 then iX Y l acc else none:=by
 conv=>lhs;unfold iX
 rw[if_neg cc,if_pos rfl]
def WM(Y:L UInt8)(u N P:Int)(S:L UInt8)(xs l:L Nd)(acc:L Ty):iX (116::Y) (.mk u N P S xs::l) acc=if(aO (.mk u N P S xs)).2=0 then iX Y l (acc++[(aO (.mk u N P S xs)).1])else none:=by
 conv=>lhs;unfold iX
 rw[if_neg cc,if_neg cc,if_pos rfl]
def WN(Y:L UInt8)(u N P:Int)(S:L UInt8)(xs l:L Nd)(acc:L Ty):iX (118::Y) (.mk u N P S xs::l) acc=iX Y l acc:=by
 conv=>lhs;unfold iX
 rw[if_neg cc,if_neg cc,if_neg cc]
def Uu:Option (L Ty)->CV
 |some l => .fG [.sl 2 (aj l),.bool true]
 |none => .fG [.sl 2 [],.bool false]
def I4(u N P:Int)(S:L UInt8)(args:L Nd)(hn:aM args<=8589934593):af 104 [aS (.mk u N P S args)] (Uu (br P args)):=by
 have h1:=Gt P;have O7:=gA args;have H:=bf args;unfold br;by_cases p:P<40;rw[if_pos (.inl p)];have e1:decide (P<40)=true:=aam p;exact qdw func104 call104;have e1:decide (P<40)=false:=aan p;by_cases c2:args.length≠(fF P).length
 ·rw[if_pos (.inr c2)];have B:((((aD args).length:Nat):Int) != (((fF P).length:Nat):Int))=true:=by rw[H];simp;omega
  exact qdw func104 call104
 rw[if_neg bn];have T:args.length=(fF P).length:=by omega
 have B:((((aD args).length:Nat):Int) != (((fF P).length:Nat):Int))=false:=by rw[H];simp;omega
 have W:=λw h => @LG P w h;generalize fF P=Q at h1 T B W ⊢;refine qn func104 call104 λβ hf=>?_
 repeat' (first|refine kW ?_|refine zc ?_ ?_|(intro h;first|(cases h;done)|rw[h]|skip)|refine uC Z h1 ?_|(refine uA Z ?_ ?_<;>(try (show(_:Nat)*_<=_;dsimp only))))
 refine AK.fQ [] [(6000,(0,none))] (env':=[(27,.c (.int .i64 (0:Nat))),(26,.c (.int .i64 (aD args).length)),(25,.c (.sl 5 (aD args))),(4,.c (.str Q)),(5,.own (.tok 6000 0) 2 [])])
  (bs':=[]) (ts':=[(6000,0)]) (us':=[6000])
  ce  trivial Z ?_
 refine AK.dI (α:=Nat×L Ty) (λz=>z.1<=args.length/\z.2.length<=z.1/\iX Q args []=iX (Q.drop z.1) (args.drop z.1) z.2) (λz=>args.length-z.1)
  (λz=>[(27,.c (.int .i64 z.1)),(26,.c (.int .i64 (aD args).length)),(25,.c (.sl 5 (aD args))),(4,.c (.str Q)),(5,.own (.tok 6000 0) 2 (aj z.2))]) (λ_=>[]) (λ_=>[(6000,0)]) [6000] (0,[])
  ⟨bn,c9,Z⟩ ce trivial ⟨Z,trivial⟩ Z Z Z ?_
 rintro⟨i,acc⟩ ⟨E,Ch,Y⟩ ih;simp only at E Ch Y;rcases eI args i E with ⟨x,O,hm⟩|A
 ·have hc:=l8 O;have h2:=bh O;obtain⟨w,V⟩:∃w,Q[i]?=some w:=⟨Q[i]' bn,c9⟩;have I5:=W w (aap V);have hxs:=eR hm;have D:=jT x bn;rw[cQ O,cQ V]at Y;obtain⟨q,I,k3,k4,k5⟩:=x;rcases I5 with rfl|rfl|rfl|rfl
  ·have K:((((110:UInt8).toNat:Nat):Int)==110)=true:=rfl;rw[WK]at Y;by_cases g1:q=0;rotate_left
   ·rw[if_neg (λh=>g1 h.1)]at Y;rw[Y];have M:(q != 0)=true:=(by simpa using g1);clear ih Y
    repeat' (first|refine kW ?_|refine zc ?_ ?_|(intro h;first|(cases h;done)|rw[h]|skip)|refine uI Z (i) Z (ew O) Z ?_|refine ai.kZ hX kn Z Z Z Z Z Z Z (m:=i) Z V ?_|(refine uA Z ?_ ?_<;>(try (show(_:Nat)*_<=_;dsimp only))))
    all_goals exact vp
   subst g1;by_cases G:I<0
   ·rw[if_neg (λh=>by omega)]at Y;rw[Y];have M:decide (I<0)=true:=aam G;clear ih Y
    repeat' (first|refine kW ?_|refine zc ?_ ?_|(intro h;first|(cases h;done)|rw[h]|skip)|refine uI Z (i) Z (ew O) Z ?_|refine ai.kZ hX kn Z Z Z Z Z Z Z (m:=i) Z V ?_|(refine uA Z ?_ ?_<;>(try (show(_:Nat)*_<=_;dsimp only))))
    all_goals exact vp
   have g4:decide (I<0)=false:=aan G;by_cases C:I>40
   ·rw[if_neg (λh=>by omega)]at Y;rw[Y];have M:decide (I>40)=true:=aam C;clear ih Y
    repeat' (first|refine kW ?_|refine zc ?_ ?_|(intro h;first|(cases h;done)|rw[h]|skip)|refine uI Z (i) Z (ew O) Z ?_|refine ai.kZ hX kn Z Z Z Z Z Z Z (m:=i) Z V ?_|(refine uA Z ?_ ?_<;>(try (show(_:Nat)*_<=_;dsimp only))))
    all_goals exact vp
   have g6:decide (I>40)=false:=aan C;rw[if_pos ⟨Z,bn,bn⟩]at Y
   repeat' (first|refine kW ?_|refine zc ?_ ?_|(intro h;first|(cases h;done)|rw[h]|skip)|refine uI Z (i) Z (ew O) Z ?_|refine ai.kZ hX kn Z Z Z Z Z Z Z (m:=i) Z V ?_|(refine uA Z ?_ ?_<;>(try (show(_:Nat)*_<=_;dsimp only))))
   refine AK.again (ih (i+1,acc) ⟨h2,X4,Y⟩ fe) ⟨.inl (ff (i:=i) bn),.inl Z,.inl Z,.inl Z,.inl Z,trivial⟩ trivial ⟨Z,trivial⟩ Z Z Z
  ·have K:((((99:UInt8).toNat:Nat):Int)==110)=false:=rfl;have f2:((((99:UInt8).toNat:Nat):Int)==99)=true:=rfl;rw[WL]at Y;by_cases g1:q=3;rotate_left
   ·rw[if_neg g1]at Y;rw[Y];have M:(q != 3)=true:=(by simpa using g1);clear ih Y
    repeat' (first|refine kW ?_|refine zc ?_ ?_|(intro h;first|(cases h;done)|rw[h]|skip)|refine uI Z (i) Z (ew O) Z ?_|refine ai.kZ hX kn Z Z Z Z Z Z Z (m:=i) Z V ?_|(refine uA Z ?_ ?_<;>(try (show(_:Nat)*_<=_;dsimp only))))
    all_goals exact vp
   subst g1;rw[if_pos rfl]at Y
   repeat' (first|refine kW ?_|refine zc ?_ ?_|(intro h;first|(cases h;done)|rw[h]|skip)|refine uI Z (i) Z (ew O) Z ?_|refine ai.kZ hX kn Z Z Z Z Z Z Z (m:=i) Z V ?_|(refine uA Z ?_ ?_<;>(try (show(_:Nat)*_<=_;dsimp only))))
   refine AK.again (ih (i+1,acc) ⟨h2,X4,Y⟩ fe) ⟨.inl (ff (i:=i) bn),.inl Z,.inl Z,.inl Z,.inl Z,trivial⟩ trivial ⟨Z,trivial⟩ Z Z Z
  ·have K:((((116:UInt8).toNat:Nat):Int)==110)=false:=rfl;have f2:((((116:UInt8).toNat:Nat):Int)==99)=false:=rfl;have f3:((((116:UInt8).toNat:Nat):Int)==116)=true:=rfl;rw[WM]at Y;rcases hr:aO (.mk q I k3 k4 k5)with ⟨⟨U,us⟩,e⟩
   rw[hr]at D Y;simp only at D Y;by_cases g1:e=0;rotate_left
   ·rw[if_neg g1]at Y;rw[Y];have M:(e != 0)=true:=(by simpa using g1);clear ih Y
    repeat' (first|refine kW ?_|refine zc ?_ ?_|(intro h;first|(cases h;done)|rw[h]|skip)|refine uI Z (i) Z (ew O) Z ?_|refine ai.kZ hX kn Z Z Z Z Z Z Z (m:=i) Z V ?_|refine uC Z D ?_|(refine uA Z ?_ ?_<;>(try (show(_:Nat)*_<=_;dsimp only))))
    all_goals exact vp
   subst g1;rw[if_pos rfl]at Y
   repeat' (first|refine kW ?_|refine zc ?_ ?_|(intro h;first|(cases h;done)|rw[h]|skip)|refine uI Z (i) Z (ew O) Z ?_|refine ai.kZ hX kn Z Z Z Z Z Z Z (m:=i) Z V ?_|refine uC Z D ?_|(refine uA Z ?_ ?_<;>(try (show(_:Nat)*_<=_;dsimp only))))
   have h1:=aL acc;simp only[aaa,aab];omega;have J:aj acc++[dA (.mk U us)]=aj (acc++[Ty.mk U us]):=(jw acc [_]).symm;refine AK.fQ [] [(6000,(0,some 6000))] (env':=[(27,.c (.int .i64 ((i+1:Nat):Int))),(26,.c (.int .i64 (aD args).length)),(25,.c (.sl 5 (aD args))),(4,.c (.str Q)),(5,.own (.tok 6000 0) 2 (aj (acc++[Ty.mk U us])))])
    (bs':=[]) (ts':=[(6000,0)]) (us':=[6000])
    ⟨⟨_,Z,.inl (ku (i:=i) bn)⟩,⟨_,Z,.inl Z⟩,⟨_,Z,.inl Z⟩,⟨_,Z,.inl Z⟩,⟨_,Z,⟨_,Z,.inr ⟨_,_,Z,Z,aaZ (AV.own (.tok 6000 1) 2) J⟩⟩⟩,trivial⟩ trivial Z ?_
   exact ih (i+1,acc++[Ty.mk U us]) ⟨h2,ob,Y⟩ fe
  have K:((((118:UInt8).toNat:Nat):Int)==110)=false:=rfl;have f2:((((118:UInt8).toNat:Nat):Int)==99)=false:=rfl;have f3:((((118:UInt8).toNat:Nat):Int)==116)=false:=rfl;rw[WN]at Y
  repeat' (first|refine kW ?_|refine zc ?_ ?_|(intro h;first|(cases h;done)|rw[h]|skip)|refine uI Z (i) Z (ew O) Z ?_|refine ai.kZ hX kn Z Z Z Z Z Z Z (m:=i) Z V ?_|(refine uA Z ?_ ?_<;>(try (show(_:Nat)*_<=_;dsimp only))))
  refine AK.again (ih (i+1,acc) ⟨h2,X4,Y⟩ fe) ⟨.inl (ff (i:=i) bn),.inl Z,.inl Z,.inl Z,.inl Z,trivial⟩ trivial ⟨Z,trivial⟩ Z Z Z
 have hc:=jH A;have h0:iX Q args []=some acc:=by rw[Y,A,aaW,T,aaW];exact QM _ _
 rw[h0];clear ih Y;exact dw
def wu(s:L Ty)(l:L Int)(h:LB s l=true:=by first|(simp[NY,NZ,xZ];done)|(simp[*,NY,NZ,xZ]<;>assumption))(C:s.length<=10000000000:=by first|omega|(simp only[aaa,aab]at *;omega))(V:l.length<=10000000000:=by decide):af 149 [.sl 2 (aj s),.sl 1 (jf l)] (.bool true):=by have:=x8 s l C V;rwa[h]at this
def jz(s:L Ty)(l:L Int)(h:LB s l=false:=by first|(simp[NY,NZ,xZ];done)|(simp[*,NY,NZ,xZ]<;>assumption))(C:s.length<=10000000000:=by first|omega|(simp only[aaa,aab]at *;omega))(V:l.length<=10000000000:=by decide):af 149 [.sl 2 (aj s),.sl 1 (jf l)] (.bool false):=by have:=x8 s l C V;rwa[h]at this
def ru(s l:L Ty)(C:s.length<=20000000000:=by first|omega|(simp only[aaa,aab]at *;omega))(V:l.length<=20000000000:=by simp):af 124 [.sl 2 (aj s),.sl 2 (aj l)] (.fG [.agg [.sl 2 (aj (l++s)),.bool false],.int .i64 0]):=mZ s l C V
def LH(s:L Ty)(C:s.length<=20000000000:=by first|omega|(simp only[aaa,aab]at *;omega)):af 124 [.sl 2 (aj s),.sl 0 []] (.fG [.agg [.sl 2 (aj s),.bool false],.int .i64 0]):=AN s C
end Go.Proofs
