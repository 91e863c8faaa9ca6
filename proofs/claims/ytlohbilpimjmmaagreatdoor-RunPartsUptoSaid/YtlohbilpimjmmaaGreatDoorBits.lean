/- What kind.good and kind.Good, and goodType and GoodType of touchstoneref answer. What kind.Good and kind.parse answer. What kind.Parse, node and Node answer, and the sentences that ask whether kind answers at all. What slices.EqualFunc answers, and Same of kind, SameType and SameNode of touchstonere -/
import Derived.Test.YtlohbilpimjmmaaGreatDoorKind5
import Derived.Test.YtlohbilpimjmmaaGreatDoorTPure
set_option maxHeartbeats 0
set_option linter.unusedVariables false
set_option linter.unusedSimpArgs false
namespace Go.Proofs
open Go.cu
theorem Cn {args:List Ty} {x:Ty} (h:args[0]?=some x):kg args=fG x:=by
 cases args with
 | nil=>simp at h
 | cons y l=>simp at h;subst h;rfl
theorem QU (T:Int) (args:List Ty) (d n:Int) (D:¬(d>24\/n+1>300\/arity T≠args.length)) :
  eR (.mk T args) d n=((dM args (d+1) (n+1)).1&&(if T=13\/T=15 then kg args else true),(dM args (d+1) (n+1)).2):=by
 simp only[eR,if_neg D];rcases dM args (d+1) (n+1)with ⟨b,m⟩
 cases b<;>rfl
theorem Lm (d m:Int):dM [] d m=(true,m):=rfl
theorem IC (T:Int) (args:List Ty) (d n:Int) (D:d>24\/n+1>300\/arity T≠args.length):eR (.mk T args) d n=(false,n+1):=by
 simp only[eR,if_pos D]
theorem ID (t:Ty) (l:List Ty) (d n:Int):dM (t::l) d n=if(eR t d n).1 then dM l d (eR t d n).2 else(false,(eR t d n).2):=by
 simp only[dM];rcases eR t d n with ⟨b,m⟩
 cases b<;>rfl
attribute [local irreducible] AK ai bw bz eR dM kg fG
theorem Co:∀(t:Ty) (d n:Int),bC t<=8589934593->0<=d->d<=1099511627776-bC t->0<=n->n<=300 ->
  fJ 35 [.v (.c (eC t)),.v (.c (.int .i64 d)),.box [.c (.int .i64 n)]] [.c (.bool (eR t d n).1)] [(2,[.c (.int .i64 (eR t d n).2)])]
 | .mk T args=>by
  intro d n E Ln C B hn;simp only[bC]at E C;have Gv:=iG args;have M:∀x∈args,∀m:Int,0<=m->m<=300->fJ 35 [.v (.c (eC x)),.v (.c (.int .i64 (IntKind.i64.wrap (d+1)))),.box [.c (.int .i64 m)]] [.c (.bool (eR x (d+1) m).1)] [(2,[.c (.int .i64 (eR x (d+1) m).2)])]:=by
   intro x O m q h1;have:=cF O;rw[gZ bn bn];exact Co x (d+1) m bn bn bn q h1
  have A:IntKind.i64.wrap (n+1)=n+1:=gZ bn bn;refine bz.tI Tryz.func35 rfl (fun args w=>Tryz.call35 args w) (Nat.le_of_ble_eq_true rfl) [(0,.c (eC (.mk T args))),(1,.c (.int .i64 d)),(2,.ptr 1002000 0)] [(1002000,[.c (.int .i64 n)])] [] [1002000] rfl rfl fun β=>?_;have hf:=Tryz.func35
  repeat' (first|refine nK ?_|refine zr ?_ ?_|(refine zc ?_ ?_<;>intro h<;>first|(cases h;done)|rw[h]|skip)|refine uC rfl (uc T) ?_|((first|refine Gw ?_|refine zu ?_ ?_)<;>intro h<;>(fail_if_success (cases h;done))<;>rw[h]))
  rotate_left 6
  ·refine AK.eM (α:=Nat×Int) (fun z=>z.1<=args.length/\dM args (d+1) (n+1)=dM (args.drop z.1) (d+1) z.2/\0<=z.2/\z.2<=300) (fun z=>args.length-z.1)
    (fun z=>[(34,.c (.int .i64 z.1)),(33,.c (.int .i64 (aE args).length)),(32,.c (.sl 2 (aE args))),(1,.c (.int .i64 d)),(2,.ptr 1002000 0),(3,.ptr 3 0)])
    (fun z=>[(3,[.c (.int .i64 T),.c (.sl 2 (aE args))]),(1002000,[.c (.int .i64 z.2)])]) (fun _=>[]) [3,1002000] (0,n+1)
    ⟨bn,rfl,bn,?_⟩ ⟨.inl rfl,.inl rfl,.inl rfl,.inl rfl,.inl rfl,.inl rfl,trivial⟩ ⟨rfl,congrArg (fun k=>some [AV.c (CV.int .i64 k)]) A,trivial⟩ trivial rfl rfl rfl ?_
   ·simp_all
   rintro⟨i,m⟩ ⟨I,p,W,S⟩ ih;simp only at I p W S;have D:¬(d>24\/n+1>300\/arity T≠args.length):=by
    rename_i g1 g2;simp only[cond_false,A,decide_eq_false_iff_not,bne_eq_false_iff_eq,aY]at g1 g2 h;rintro(Q|Q|Q)
    ·omega
    ·omega
    ·exact Q h
   have P:=QU T args d n D;rcases gf args i I with ⟨x,O,V⟩|H
   ·have hc:=Gx O;have hq:=M x V m W S;have N:=rJ x (d+1) m S;rw[dO O]at p;rw[ID]at p;obtain⟨U,us⟩:=x
    repeat' (first|refine nK ?_|refine zr ?_ ?_|(refine zc ?_ ?_<;>intro h<;>first|(cases h;done)|rw[h]|skip)|refine uI rfl (i) rfl (fQ O) rfl ?_|refine jl ?_ (hq:=hq)|((first|refine Gw ?_|refine zu ?_ ?_)<;>intro h<;>(fail_if_success (cases h;done))<;>rw[h]))
    ·have hf:(eR (.mk U us) (d+1) m).1=false:=by simpa using h
     rw[hf]at p;rw[P,p];rfl
    ·have hf:(eR (.mk U us) (d+1) m).1=false:=by simpa using h
     rw[hf]at p;rw[P,p];rfl
    ·have hf:(eR (.mk U us) (d+1) m).1=true:=by simpa using h
     rw[hf]at p;refine AK.again (ih (i+1,(eR (.mk U us) (d+1) m).2) ⟨bD O,p,bn,N.2.2 hf⟩ NZ)
      ⟨.inl (iD n8),.inl rfl,.inl rfl,.inl rfl,.inl rfl,.inl rfl,trivial⟩ ⟨rfl,rfl,trivial⟩ trivial rfl rfl rfl
   ·have hc:=BT H;have hG:dM args (d+1) (n+1)=(true,m):=by rw[p,H,List.drop_length,Lm]
    rw[hG]at P;by_cases K:T=13\/T=15
    ·obtain⟨G,Y⟩:∃x,args[0]?=some x:=by
      have h1:arity T>=1:=by rcases K with rfl|rfl<;>decide
      have h2:0<args.length:=by simp only[not_or,ne_eq,Decidable.not_not]at D;omega
      exact⟨args[0],by simp[h2]⟩
     have J:=kK G (by have:=cF (aaz Y);omega);rw[if_pos K,Cn Y]at P;clear ih M;obtain⟨U,us⟩:=G
     repeat' (first|refine nK ?_|refine zr ?_ ?_|(refine zc ?_ ?_<;>intro h<;>first|(cases h;done)|rw[h]|skip)|refine uI rfl (0) rfl (fQ Y) rfl ?_|refine uC rfl J ?_|((first|refine Gw ?_|refine zu ?_ ?_)<;>intro h<;>(fail_if_success (cases h;done))<;>rw[h]))
     all_goals first
      | (show(_:List LV)=_;rw[P];first|rfl|(simp;done)|(exfalso;simp_all;done))
      | (show(_:List (Nat×List LV))=_;rw[P];done)
      | (show(_:List (Nat×List LV))=_;rw[P];rfl)
      | (exfalso;clear hf P p;simp_all;done)
    ·rw[if_neg K]at P;clear ih M
     repeat' (first|refine nK ?_|refine zr ?_ ?_|(refine zc ?_ ?_<;>intro h<;>first|(cases h;done)|rw[h]|skip)|((first|refine Gw ?_|refine zu ?_ ?_)<;>intro h<;>(fail_if_success (cases h;done))<;>rw[h]))
     all_goals first
      | (show(_:List LV)=_;rw[P];first|rfl|(simp;done)|(exfalso;simp_all;done))
      | (show(_:List (Nat×List LV))=_;rw[P];done)
      | (show(_:List (Nat×List LV))=_;rw[P];rfl)
      | (exfalso;clear hf P p;simp_all;done)
  all_goals
   have u:d>24\/n+1>300\/arity T≠args.length:=by
    clear M hf
    first
    | (left;simp_all;done)
    | (right;left;simp_all;done)
    | (right;right;simp_all [aY];done)
   first
   | (show(_:List LV)=_;rw[IC T args d n u])
   | (show(_:List (Nat×List LV))=_;rw[IC T args d n u,A])
termination_by t=>SizeOf.sizeOf t
decreasing_by
 have:=List.sizeOf_lt_of_mem O;simp at this ⊢;omega
end Go.Proofs
namespace Go.Proofs
open Go.cu
theorem E9 (kind G p:Int) (s:List UInt8) (args:List Nd) (d left:Int) (h:left-1<0\/d>24\/kind≠2\/G≠0\/s≠[]\/arity p≠args.length):fE (.mk kind G p s args) d left=(none,left-1):=by
 simp only[fE,if_pos h]
theorem Pd (kind G p:Int) (s:List UInt8) (args:List Nd) (d left:Int) (h:¬(left-1<0\/d>24\/kind≠2\/G≠0\/s≠[]\/arity p≠args.length)) :
  fE (.mk kind G p s args) d left=((dP args (d+1) (left-1)).1.map (.mk p),(dP args (d+1) (left-1)).2):=by
 simp only[fE,if_neg h];rcases dP args (d+1) (left-1)with ⟨b,m⟩
 cases b<;>rfl
theorem IE (d m:Int):dP [] d m=(some [],m):=rfl
theorem Gy (t:Nd) (l:List Nd) (d n:Int):dP (t::l) d n=match (fE t d n).1 with
  | some y=>((dP l d (fE t d n).2).1.map (y :: ·),(dP l d (fE t d n).2).2)
  | none=>(none,(fE t d n).2):=by
 simp only[dP];rcases fE t d n with ⟨b,m⟩
 cases b with
 | none=>rfl
 | some y =>
  simp only;rcases dP l d m with ⟨r,u⟩
  cases r<;>rfl
theorem dX {l:List Nd} {i:Nat} {x:Nd} (h:l[i]?=some x):(aH l)[i]?=some (aW x):=by rw[Cp,h];rfl
theorem lq {l:List Nd} {i:Nat} {x:Nd} (h:l[i]?=some x):decide (((i:Nat):Int)<(((aH l).length:Nat):Int))=true:=dec_lt (by have:=bD h;rw[bq];omega)
theorem iX {l:List Nd} {i:Nat} (h:i=l.length):decide (((i:Nat):Int)<(((aH l).length:Nat):Int))=false:=Gz (by rw[bq];omega)
theorem jK:∀(a:List Ty) (b:List Ty),aE (a++b)=aE a++aE b
 | [],b=>rfl
 | t::a,b=>by simp[aE,jK a b]
theorem jL:∀(a:List Nd) (b:List Nd),aH (a++b)=aH a++aH b
 | [],b=>rfl
 | t::a,b=>by simp[aH,jL a b]
theorem kL {i:Nat} (h:i<1099511627776):AV.c (CV.int .i64 (IntKind.i64.wrap ((i:Int)+1)))=AV.c (CV.int .i64 ((i+1:Nat):Int)):=by
 rw[gZ bn bn];rfl
def Fa:Option Ty->Ty
 | some t=>t
 | none => .mk 0 []
attribute [local irreducible] AK ai bw bz eR dM kg fG fE dP
theorem nq (t:Ty) (M:bC t<=8589934593):ah 19 [eC t] (.bool (bA t)):=by
 have hq:=Co t 1 0 M bn bn bn bn;obtain⟨T,args⟩:=t;refine qn Tryz.func19 Tryz.call19 fun β hf=>?_
 repeat' (first|refine nK ?_|refine jl ?_ (hq:=hq))
 rfl
theorem AR:∀(n:Nd) (d left:Int),bN n<=8589934593->0<=d->d<=1099511627776-bN n->0<=left->left<=300 ->
  fJ 92 [.v (.c (aW n)),.v (.c (.int .i64 d)),.box [.c (.int .i64 left)]] [.c (eC (Fa (fE n d left).1)),.c (.bool (fE n d left).1.isSome)] [(2,[.c (.int .i64 (fE n d left).2)])]
 | .mk kind G p s args=>by
  intro d left J Ln H E hn;simp only[bN]at J H;have Gv:=eL args;have M:∀x∈args,∀m:Int,0<=m->m<=300->fJ 92 [.v (.c (aW x)),.v (.c (.int .i64 (IntKind.i64.wrap (d+1)))),.box [.c (.int .i64 m)]] [.c (eC (Fa (fE x (d+1) m).1)),.c (.bool (fE x (d+1) m).1.isSome)] [(2,[.c (.int .i64 (fE x (d+1) m).2)])]:=by
   intro x O m B h1;have:=ee O;rw[gZ bn bn];exact AR x (d+1) m bn bn bn B h1
  have A:IntKind.i64.wrap (left-1)=left-1:=gZ bn bn;refine bz.tI Tryz.func92 rfl (fun args w=>Tryz.call92 args w) (Nat.le_of_ble_eq_true rfl) [(0,.c (aW (.mk kind G p s args))),(1,.c (.int .i64 d)),(2,.ptr 1002000 0)] [(1002000,[.c (.int .i64 left)])] [] [1002000] rfl rfl fun β=>?_;have hf:=Tryz.func92
  repeat' (first|refine nK ?_|refine zr ?_ ?_|(refine zc ?_ ?_<;>intro h<;>first|(cases h;done)|rw[h]|skip)|refine uC rfl (uc p) ?_|(refine uA rfl ?_ ?_<;>(try (show(_:Nat)*_<=_;dsimp only)))|((first|refine Gw ?_|refine zu ?_ ?_)<;>intro h<;>(fail_if_success (cases h;done))<;>rw[h]))
  rotate_left 12
  ·refine AK.fY [(6,6),(8,8),(1002000,1002000)] [(8000,(0,none))] (env':=[(57,.c (.int .i64 (0:Nat))),(56,.c (.int .i64 (aH args).length)),(55,.c (.sl 5 (aH args))),(1,.c (.int .i64 d)),(2,.ptr 1002000 0),(6,.ptr 6 0),(8,.ptr 8 0)])
    (bs':=[(6,[.c (.int .i64 0),.own .exact 2 []]),(8,[.c (.int .i64 p),.own (.tok 8000 0) 2 []]),(1002000,[.c (.int .i64 (left-1))])]) (ts':=[(8000,0)]) (us':=[6,8,1002000,8000])
    ⟨⟨_,rfl,.inl rfl⟩,⟨_,rfl,.inl rfl⟩,⟨_,rfl,.inl rfl⟩,⟨_,rfl,.inl rfl⟩,⟨_,rfl,⟨_,rfl,rfl⟩⟩,⟨_,rfl,⟨_,rfl,rfl⟩⟩,⟨_,rfl,⟨_,rfl,rfl⟩⟩,trivial⟩
    ⟨⟨_,_,rfl,rfl,⟨_,_,rfl,.inl rfl,⟨_,_,rfl,rfl,rfl⟩⟩⟩,⟨_,_,rfl,rfl,⟨_,_,rfl,.inl rfl,⟨_,_,rfl,⟨_,rfl,.inl ⟨rfl,_,rfl,.inr rfl⟩⟩,rfl⟩⟩⟩,⟨_,_,rfl,rfl,⟨_,_,rfl,.inl (congrArg (fun k=>AV.c (.int .i64 k)) A),rfl⟩⟩,trivial⟩ rfl ?_
   refine AK.eM (α:=Nat×List Ty×Int) (fun z=>z.1<=args.length/\z.1=z.2.1.length/\dP args (d+1) (left-1)=((dP (args.drop z.1) (d+1) z.2.2).1.map (z.2.1 ++ ·),(dP (args.drop z.1) (d+1) z.2.2).2)/\0<=z.2.2/\z.2.2<=300) (fun z=>args.length-z.1)
    (fun z=>[(57,.c (.int .i64 z.1)),(56,.c (.int .i64 (aH args).length)),(55,.c (.sl 5 (aH args))),(1,.c (.int .i64 d)),(2,.ptr 1002000 0),(6,.ptr 6 0),(8,.ptr 8 0)])
    (fun z=>[(6,[.c (.int .i64 0),.own .exact 2 []]),(8,[.c (.int .i64 p),.own (.tok 8000 0) 2 (aE z.2.1)]),(1002000,[.c (.int .i64 z.2.2)])]) (fun _=>[(8000,0)]) [6,8,1002000,8000] (0,[],left-1)
    ⟨bn,rfl,cn,?_,by show left-1<=300;omega⟩ ⟨.inl rfl,.inl rfl,.inl rfl,.inl rfl,.inl rfl,.inl rfl,.inl rfl,trivial⟩ ⟨rfl,rfl,rfl,trivial⟩ ⟨rfl,trivial⟩ rfl rfl rfl ?_
   ·have:¬(left-1<0):=by simp_all
    show 0<=left-1;omega
   rintro⟨i,acc,m⟩ ⟨I,S,W,Y,N⟩ ih;simp only at I S W Y N;have D:¬(left-1<0\/d>24\/kind≠2\/G≠0\/s≠[]\/arity p≠args.length):=by
    clear ih M hf;simp_all [bq]
   have P:=Pd kind G p s args d left D;rcases gf args i I with ⟨x,O,V⟩|K
   ·have q:=lq O;have hq:=M x V m Y N;have Q:=Fb x (d+1) m Y;rw[dO O,Gy]at W;rcases hr:fE x (d+1) m with ⟨b,C⟩
    rw[hr]at hq Q W;obtain⟨xk,xn,xp,xs,xa⟩:=x;cases b with
    | none =>
     simp only[Fa,Option.isSome_none]at hq W
     repeat' (first|refine nK ?_|refine zr ?_ ?_|(refine zc ?_ ?_<;>intro h<;>first|(cases h;done)|rw[h]|skip)|refine uI rfl (i) rfl (dX O) rfl ?_|refine jl ?_ (hq:=hq)|(refine uA rfl ?_ ?_<;>(try (show(_:Nat)*_<=_;dsimp only)))|((first|refine Gw ?_|refine zu ?_ ?_)<;>intro h<;>(fail_if_success (cases h;done))<;>rw[h]))
     ·rw[P,W];rfl
     ·rw[P,W]
    | some y =>
     obtain⟨U,us⟩:=y;simp only[Fa,Option.isSome_some]at hq W
     repeat' (first|refine nK ?_|refine zr ?_ ?_|(refine zc ?_ ?_<;>intro h<;>first|(cases h;done)|rw[h]|skip)|refine uI rfl (i) rfl (dX O) rfl ?_|refine jl ?_ (hq:=hq)|(refine uA rfl ?_ ?_<;>(try (show(_:Nat)*_<=_;dsimp only)))|((first|refine Gw ?_|refine zu ?_ ?_)<;>intro h<;>(fail_if_success (cases h;done))<;>rw[h]))
     ·have h1:=aY acc;have h2:=bD O;simp only[aaa,aab];omega
     ·have T:aE acc++[eC (.mk U us)]=aE (acc++[Ty.mk U us]):=(jK acc [.mk U us]).symm;refine AK.fY [(6,6),(8,8),(1002000,1002000)] [(8000,(0,some 8000))] (env':=[(57,.c (.int .i64 ((i+1:Nat):Int))),(56,.c (.int .i64 (aH args).length)),(55,.c (.sl 5 (aH args))),(1,.c (.int .i64 d)),(2,.ptr 1002000 0),(6,.ptr 6 0),(8,.ptr 8 0)])
       (bs':=[(6,[.c (.int .i64 0),.own .exact 2 []]),(8,[.c (.int .i64 p),.own (.tok 8000 0) 2 (aE (acc++[Ty.mk U us]))]),(1002000,[.c (.int .i64 C)])]) (ts':=[(8000,0)]) (us':=[6,8,1002000,8000])
       ⟨⟨_,rfl,.inl (kL (i:=i) n8)⟩,⟨_,rfl,.inl rfl⟩,⟨_,rfl,.inl rfl⟩,⟨_,rfl,.inl rfl⟩,⟨_,rfl,⟨_,rfl,rfl⟩⟩,⟨_,rfl,⟨_,rfl,rfl⟩⟩,⟨_,rfl,⟨_,rfl,rfl⟩⟩,trivial⟩
       ⟨⟨_,_,rfl,rfl,⟨_,_,rfl,.inl rfl,⟨_,_,rfl,rfl,rfl⟩⟩⟩,⟨_,_,rfl,rfl,⟨_,_,rfl,.inl rfl,⟨_,_,rfl,⟨_,rfl,.inr ⟨_,_,rfl,rfl,congrArg (AV.own (.tok 8000 1) 2) T⟩⟩,rfl⟩⟩⟩,⟨_,_,rfl,rfl,⟨_,_,rfl,.inl rfl,rfl⟩⟩,trivial⟩ rfl ?_
      refine ih (i+1,acc++[Ty.mk U us],C) ⟨bD O,by simp[S],?_,?_,?_⟩ NZ
      ·show dP args (d+1) (left-1)=_;rw[W];rcases dP (List.drop (i+1) args) (d+1) C with ⟨r,m2⟩
       cases r<;>simp
      ·exact Q.2.2 cn
      ·have:=Q.1;show C<=300;simp only at this;omega
   ·have q:=iX K;have hG:dP args (d+1) (left-1)=(some acc,m):=by rw[W,K,List.drop_length,IE];simp
    rw[hG]at P;clear ih M
    repeat' (first|refine nK ?_|refine zr ?_ ?_|(refine zc ?_ ?_<;>intro h<;>first|(cases h;done)|rw[h]|skip)|(refine uA rfl ?_ ?_<;>(try (show(_:Nat)*_<=_;dsimp only)))|((first|refine Gw ?_|refine zu ?_ ?_)<;>intro h<;>(fail_if_success (cases h;done))<;>rw[h]))
    ·rw[P];rfl
    ·rw[P]
  all_goals
   have u:left-1<0\/d>24\/kind≠2\/G≠0\/s≠[]\/arity p≠args.length:=by
    clear M hf
    first
    | (left;simp_all;done)
    | (right;left;simp_all;done)
    | (right;right;left;simp_all;done)
    | (right;right;right;left;simp_all;done)
    | (right;right;right;right;left;simp_all;done)
    | (right;right;right;right;right;simp_all [bq];done)
   first
   | (show(_:List LV)=_;rw[E9 kind G p s args d left u];rfl)
   | (show(_:List (Nat×List LV))=_;rw[E9 kind G p s args d left u,A])
termination_by t=>SizeOf.sizeOf t
decreasing_by
 have:=List.sizeOf_lt_of_mem O;simp at this ⊢;omega
end Go.Proofs
namespace Go.Proofs
open Go.cu
mutual
theorem ud:∀(n:Nd) (d left:Int) (t:Ty) (m:Int),fE n d left=(some t,m)->bC t<=bN n
 | .mk kind G p s args,d,left,t,m,h=>by
  simp only[fE]at h;split at h
  ·simp at h
  ·rcases D:dP args (d+1) (left-1)with ⟨b,u⟩
   rw[D]at h;cases b with
   | none=>simp at h
   | some l =>
    simp at h;have:=ye args (d+1) (left-1) l u D;rw[<- h.1];simp only[bC,bN];omega
theorem ye:∀(l:List Nd) (d left:Int) (r:List Ty) (m:Int),dP l d left=(some r,m)->br r<=aQ l
 | [],d,left,r,m,h=>by simp[dP]at h;rw[h.1];simp[br]
 | x::l,d,left,r,m,h=>by
  simp only[dP]at h;rcases D:fE x d left with ⟨b,u⟩
  rw[D]at h;cases b with
  | none=>simp at h
  | some t =>
   simp only at h;rcases Y:dP l d u with ⟨W,J⟩
   rw[Y]at h;cases W with
   | none=>simp at h
   | some q =>
    simp at h;have h1:=ud x d left t u D;have h2:=ye l d u q J Y;rw[<- h.1];simp only[br,aQ];omega
end
attribute [local irreducible] AK ai bw bz eR dM kg fG fE dP bA
theorem ki (n:Nd) (N:bN n<=8589934593):ah 61 [aW n] (.gB [eC (aZ n).1,.int .i64 (aZ n).2]):=by
 have hq:=AR n 1 300 N bn bn bn bn;rcases I:fE n 1 300 with ⟨b,m⟩
 rw[I]at hq;have J:=ud n 1 300;rw[I]at J;cases b with
 | none =>
  have O:aZ n=(.mk 0 [],1):=by simp only[aZ,I]
  rw[O];simp only[Fa,Option.isSome_none]at hq;obtain⟨k,a,p,s,l⟩:=n;refine qn Tryz.func61 Tryz.call61 fun β hf=>?_
  repeat' (first|refine nK ?_|(refine zc ?_ ?_<;>intro h<;>first|(cases h;done)|rw[h]|skip)|refine jl ?_ (hq:=hq)|((first|refine Gw ?_|refine zu ?_ ?_)<;>intro h<;>(fail_if_success (cases h;done))<;>rw[h]))
  rfl
 | some t =>
  have Q:=nq t (Nat.le_trans (J t m rfl) N);have O:aZ n=if bA t then(t,0)else(.mk 0 [],1):=by simp only[aZ,I]
  rw[O];obtain⟨U,us⟩:=t;simp only[Fa,Option.isSome_some]at hq;obtain⟨k,a,p,s,l⟩:=n;cases Y:bA (.mk U us)
  all_goals
   rw[Y]at Q;refine qn Tryz.func61 Tryz.call61 fun β hf=>?_
   repeat' (first|refine nK ?_|(refine zc ?_ ?_<;>intro h<;>first|(cases h;done)|rw[h]|skip)|refine jl ?_ (hq:=hq)|refine uC rfl Q ?_|((first|refine Gw ?_|refine zu ?_ ?_)<;>intro h<;>(fail_if_success (cases h;done))<;>rw[h]))
   rfl
end Go.Proofs
set_option maxRecDepth 100000
namespace Go.Proofs
open Go.cu
attribute [local irreducible] AK ai bw bz
def qu {α:Type} (q:α->α->Bool):List α->List α->Bool
 | [],[]=>true
 | x::l,y::r=>q x y&&qu q l r
 | _,_=>false
theorem yf {α:Type} (q:α->α->Bool):∀(l r:List α),l.length≠r.length->qu q l r=false
 | [],[],h=>by simp at h
 | [],_::_,_=>rfl
 | _::_,[],_=>rfl
 | x::l,y::r,h=>by simp[qu,yf q l r lp]
theorem yg:∀(l r:List Ty),qu cP l r=gN l r
 | [],[]=>rfl
 | [],_::_=>rfl
 | _::_,[]=>rfl
 | x::l,y::r=>by simp[qu,gN,yg l r]
theorem Cr:∀(l r:List Nd),qu oC l r=jU l r
 | [],[]=>rfl
 | [],_::_=>rfl
 | _::_,[]=>rfl
 | x::l,y::r=>by simp[qu,jU,Cr l r]
theorem Cs {α:Type} (q:α->α->Bool) {l r:List α} {i:Nat} (h:l.length=r.length) (W:i=l.length):qu q (l.drop i) (r.drop i)=true:=by
 subst W;rw[List.drop_length,h,List.drop_length];rfl
theorem pF (l r:List Ty) (q:Ty->Ty->Bool) (f:FuncId) (W:List CV) (S:∀x∈l,∀y∈r,ah f (eC x::eC y::W) (.bool (q x y))) (V:l.length<=1099511627776) :
  ah 28 [.sl 2 (aE l),.sl 2 (aE r),.rK f W] (.bool (qu q l r)):=by
 by_cases C:l.length=r.length
 ·have Y:((((aE l).length:Nat):Int) != (((aE r).length:Nat):Int))=false:=by rw[aY,aY,C];simp
  refine qn Tryz.func28 Tryz.call28 fun β hf=>?_
  repeat' (first|refine nK ?_|(refine zc ?_ ?_<;>intro h<;>first|(cases h;done)|rw[h]|skip))
  refine AK.eM (α:=Nat) (fun i=>i<=l.length/\qu q l r=qu q (l.drop i) (r.drop i)) (fun i=>l.length-i)
   (fun i=>[(17,.c (.int .i64 i)),(16,.c (.int .i64 (aE l).length)),(15,.c (.sl 2 (aE l))),(1,.c (.sl 2 (aE r))),(2,.c (.rK f W))]) (fun _=>[]) (fun _=>[]) [] 0
   ⟨bn,rfl⟩ ⟨.inl rfl,.inl rfl,.inl rfl,.inl rfl,.inl rfl,trivial⟩ trivial trivial rfl rfl rfl ?_
  rintro i ⟨I,p⟩ ih;rcases gf l i I with ⟨x,O,u⟩|P
  ·have E:=Gx O;obtain⟨y,A⟩:∃y,r[i]?=some y:=⟨r[i]' n8,cn⟩
   have hq:=S x u y (aaz A);rw[dO O,dO A]at p;simp only[qu]at p;obtain⟨T,args⟩:=x;obtain⟨U,us⟩:=y
   repeat' (first|refine nK ?_|(refine zc ?_ ?_<;>intro h<;>first|(cases h;done)|rw[h]|skip)|refine uI rfl (i) rfl (fQ O) rfl ?_|refine uI rfl (i) rfl (fQ A) rfl ?_|refine uC rfl hq ?_)
   ·rw[p];simp_all
   ·refine AK.again (ih (i+1) ⟨bD O,?_⟩ n8) ⟨.inl (iD n8),.inl rfl,.inl rfl,.inl rfl,.inl rfl,trivial⟩ trivial trivial rfl rfl rfl;simp_all
  ·have E:=BT P
   repeat' (first|refine nK ?_|(refine zc ?_ ?_<;>intro h<;>first|(cases h;done)|rw[h]|skip))
   rw[p,Cs q C P]
 ·have Y:((((aE l).length:Nat):Int) != (((aE r).length:Nat):Int))=true:=by rw[aY,aY];simp;omega
  rw[yf q l r C];refine qn Tryz.func28 Tryz.call28 fun β hf=>?_;exact dq
theorem ue (l r:List Nd) (q:Nd->Nd->Bool) (f:FuncId) (W:List CV) (V:∀x∈l,∀y∈r,ah f (aW x::aW y::W) (.bool (q x y))) (Y:l.length<=1099511627776) :
  ah 30 [.sl 5 (aH l),.sl 5 (aH r),.rK f W] (.bool (qu q l r)):=by
 by_cases C:l.length=r.length
 ·have T:((((aH l).length:Nat):Int) != (((aH r).length:Nat):Int))=false:=by rw[bq,bq,C];simp
  refine qn Tryz.func30 Tryz.call30 fun β hf=>?_
  repeat' (first|refine nK ?_|(refine zc ?_ ?_<;>intro h<;>first|(cases h;done)|rw[h]|skip))
  refine AK.eM (α:=Nat) (fun i=>i<=l.length/\qu q l r=qu q (l.drop i) (r.drop i)) (fun i=>l.length-i)
   (fun i=>[(17,.c (.int .i64 i)),(16,.c (.int .i64 (aH l).length)),(15,.c (.sl 5 (aH l))),(1,.c (.sl 5 (aH r))),(2,.c (.rK f W))]) (fun _=>[]) (fun _=>[]) [] 0
   ⟨bn,rfl⟩ ⟨.inl rfl,.inl rfl,.inl rfl,.inl rfl,.inl rfl,trivial⟩ trivial trivial rfl rfl rfl ?_
  rintro i ⟨I,p⟩ ih;rcases gf l i I with ⟨x,O,u⟩|P
  ·have E:=lq O;obtain⟨y,A⟩:∃y,r[i]?=some y:=⟨r[i]' n8,cn⟩
   have hq:=V x u y (aaz A);rw[dO O,dO A]at p;simp only[qu]at p;obtain⟨U,S,G,K,Q⟩:=x;obtain⟨H,N,M,J,D⟩:=y
   repeat' (first|refine nK ?_|(refine zc ?_ ?_<;>intro h<;>first|(cases h;done)|rw[h]|skip)|refine uI rfl (i) rfl (dX O) rfl ?_|refine uI rfl (i) rfl (dX A) rfl ?_|refine uC rfl hq ?_)
   ·rw[p];simp_all
   ·refine AK.again (ih (i+1) ⟨bD O,?_⟩ n8) ⟨.inl (iD n8),.inl rfl,.inl rfl,.inl rfl,.inl rfl,trivial⟩ trivial trivial rfl rfl rfl;simp_all
  ·have E:=iX P
   repeat' (first|refine nK ?_|(refine zc ?_ ?_<;>intro h<;>first|(cases h;done)|rw[h]|skip))
   rw[p,Cs q C P]
 ·have T:((((aH l).length:Nat):Int) != (((aH r).length:Nat):Int))=true:=by rw[bq,bq];simp;omega
  rw[yf q l r C];refine qn Tryz.func30 Tryz.call30 fun β hf=>?_;exact dq
theorem gH:∀(t u:Ty),bC t<=1099511627776->ah 29 [eC t,eC u] (.bool (cP t u))
 | .mk T args,.mk U us,M=>by
  simp only[bC]at M;have Y:=iG args;have hq:=pF args us cP 29 [] (fun x O y _=>gH x y (by have:=cF O;omega)) bn;rw[yg]at hq;refine qn Tryz.func29 Tryz.call29 fun β hf=>?_
  repeat' (first|refine nK ?_|refine uC rfl hq ?_|((first|refine Gw ?_|refine zu ?_ ?_)<;>intro h<;>(fail_if_success (cases h;done))<;>rw[h]))
  all_goals simp_all [cP]
termination_by t=>SizeOf.sizeOf t
decreasing_by
 have:=List.sizeOf_lt_of_mem O;simp at this ⊢;omega
end Go.Proofs
namespace Go.Proofs
open Go.cu
attribute [local irreducible] AK ai bw bz
def iU (r:CR):CV:=if r.2=0 then .gB [.agg [.sl 2 (aE r.1.1),.bool r.1.2],.int .i64 0]else .gB [.agg [.any,.any],.int .i64 r.2]
def qz (r:CR):CV := .gB [.agg [.sl 2 (aE r.1.1),.bool r.1.2],.int .i64 r.2]
theorem IF (s:List Ty) (b:Bool):iU ((s,b),0) = .gB [.agg [.sl 2 (aE s),.bool b],.int .i64 0]:=rfl
theorem aG (s:List Ty):iU (ep s) = .gB [.agg [.sl 2 (aE s),.bool false],.int .i64 0]:=rfl
theorem aB {e:Int} (h:e≠0):iU (aP e) = .gB [.agg [.any,.any],.int .i64 e]:=by unfold iU aP;rw[if_neg h]
theorem iZ (e:Int):qz (aP e) = .gB [.agg [.sl 2 [],.bool false],.int .i64 e]:=rfl
theorem abg {r:CR}:Wk (qz r) (iU r):=by
 unfold qz iU;by_cases h:r.2=0
 ·rw[if_pos h,h];exact Wk.refl _
 ·rw[if_neg h];exact zI rfl rfl
theorem uf:∀(n:Nat) (l:List Ty),(aE l).drop n=aE (l.drop n)
 | 0,l=>rfl
 | n+1,[]=>rfl
 | n+1,x::l=>by simp only[aE,List.drop_succ_cons,uf n l]
theorem dG (T:Int) (l:List Ty):ah 98 [.int .i64 T,.sl 2 (aE l)] (eC (.mk T l)):=by
 refine qn Tryz.func98 Tryz.call98 fun β hf=>?_;exact dw
theorem cN (T:Int):ah 98 [.int .i64 T,.sl 0 []] (eC (.mk T [])) :=
 bw.wk sx (Wk.refl _) (dG T [])
theorem eJ (l:List Ty) (C:l.length<=1099511627776):fJ 21 [.v (.c (.sl 2 (aE l)))] [.own 2 (aE l)] []:=by
 cases l with
 | nil =>
  refine bz.tI Tryz.func21 rfl (fun args w=>Tryz.call21 args w) (Nat.le_of_ble_eq_true rfl) [(0,.c (.sl 2 []))] [] [] [] rfl rfl fun β=>?_;have hf:=Tryz.func21
  repeat' (first|refine qo ?_|refine zr ?_ ?_|(refine zc ?_ ?_<;>intro h<;>first|(cases h;done)|rw[h]|skip)|refine AK.pG rfl ?_ ?_|(refine uA rfl ?_ ?_<;>(try (show(_:Nat)*_<=_;dsimp only))))
  all_goals first|exact rfl|(show _<=_;decide)
 | cons x l =>
  have h1:=aY l;simp only[aaa]at C;refine bz.tI Tryz.func21 rfl (fun args w=>Tryz.call21 args w) (Nat.le_of_ble_eq_true rfl) [(0,.c (.sl 2 (eC x::aE l)))] [] [] [] rfl rfl fun β=>?_;have hf:=Tryz.func21
  repeat' (first|refine qo ?_|refine zr ?_ ?_|(refine zc ?_ ?_<;>intro h<;>first|(cases h;done)|rw[h]|skip)|refine AK.pG rfl ?_ ?_|(refine uA rfl ?_ ?_<;>(try (show(_:Nat)*_<=_;dsimp only))))
  all_goals first|exact rfl|(show _<=_;simp only[aaa,aab];omega)
theorem bF (s l:List Ty) (Y:s.length<=20000000000:=by first|omega|(simp only[aaa,aab]at *;omega)) (C:l.length<=20000000000:=by simp):ah 65 [.sl 2 (aE s),.sl 2 (aE l)] (iU (ep (l++s))):=by
 rw[aG,jK];have h1:=eJ l bn;have h2:=aY l;have V:=aY s;refine qn Tryz.func65 Tryz.call65 fun β hf=>?_;exact dw
theorem jq (s:List Ty) (Y:s.length<=20000000000:=by first|omega|(simp only[aaa,aab]at *;omega)):ah 65 [.sl 2 (aE s),.sl 0 []] (iU (ep s)) :=
 bw.wk sx (Wk.refl _) (bF s [] Y cn)
theorem AS (a b:List Ty) (p:qv a) (C:a.length<=20000000000):ah 50 [.sl 2 (aE a),.sl 2 (aE b)] (.bool (gN a b)):=by
 have h1:=pF a b cP 29 [] (fun x O y _=>gH x y (by have:=(p x O).2;omega)) bn;rw[yg]at h1;refine qn Tryz.func50 Tryz.call50 fun β hf=>?_;exact dw
theorem iH (a b:CR) (W:qv a.1.1) (C:a.1.1.length<=20000000000):ah 100
  [.agg [.sl 2 (aE a.1.1),.bool a.1.2],.int .i64 a.2,.agg [.sl 2 (aE b.1.1),.bool b.1.2],.int .i64 b.2] (qz (cT a b)):=by
 have h1:=AS a.1.1 b.1.1 W C;obtain⟨⟨s,p⟩,e⟩:=a;obtain⟨⟨t,q⟩,f⟩:=b;simp only at h1 W C ⊢;unfold cT;dsimp only;by_cases P:e≠0
 ·rw[if_pos P,iZ];have A:(e != 0)=true:=by simpa using P
  clear h1;refine qn Tryz.func100 Tryz.call100 fun β hf=>?_;exact dw
 rw[if_neg P];obtain rfl:e=0:=by simpa using P
 by_cases Y:f≠0
 ·rw[if_pos Y,iZ];have A:(f != 0)=true:=by simpa using Y
  clear h1;refine qn Tryz.func100 Tryz.call100 fun β hf=>?_;exact dw
 rw[if_neg Y];obtain rfl:f=0:=by simpa using Y
 cases p with
 | true =>
  rw[if_pos rfl];clear h1;refine qn Tryz.func100 Tryz.call100 fun β hf=>?_;exact dw
 | false =>
 rw[if_neg cc];cases q with
 | true =>
  rw[if_pos (.inl rfl)];clear h1;refine qn Tryz.func100 Tryz.call100 fun β hf=>?_;exact dw
 | false =>
 cases V:gN s t with
 | true =>
  rw[if_pos (.inr rfl)];rw[V]at h1;refine qn Tryz.func100 Tryz.call100 fun β hf=>?_;exact dw
 | false =>
  rw[if_neg cn,iZ];rw[V]at h1;refine qn Tryz.func100 Tryz.call100 fun β hf=>?_;exact dw
def gd:List Ty->List Int->Bool
 | _,[]=>true
 | [],_::_=>false
 | t::s,k::l=>(decide (k=0)||decide (bS t=k))&&gd s l
theorem bX (T:Int) (us s:List Ty) (k:Int) (l:List Int):gd (.mk T us::s) (k::l)=((decide (k=0)||decide (T=k))&&gd s l):=rfl
theorem bY (k:Int) (l:List Int):gd [] (k::l)=false:=rfl
theorem xg (l:List CV) (n:Int) (h:n<((l.length:Nat):Int)):decide (((l.length:Nat):Int)>n)=true:=aan h
theorem Fc:∀(s:List Ty) (l:List Int),s.length<l.length->gd s l=false
 | _,[],h=>by simp at h
 | [],_::_,_=>rfl
 | t::s,k::l,h=>by simp only[gd,Fc s l lp,Bool.and_false]
theorem WA {s:List Ty} {l:List Int} {t:Ty} {k:Int} {i:Nat} (h1:s[i]?=some t) (h2:l[i]?=some k):gd (s.drop i) (l.drop i)=((decide (k=0)||decide (bS t=k))&&gd (s.drop (i+1)) (l.drop (i+1))):=by
 rw[dO h1,dO h2];rfl
theorem aV (s:List Ty):gd s []=true:=by cases s<;>rfl
theorem aj (s:List Ty) (l:List Int) (U:s.length<=10000000000:=by first|omega|(simp only[aaa,aab]at *;omega)) (S:l.length<=10000000000:=by decide):ah 99 [.sl 2 (aE s),.sl 1 (kM l)] (.bool (gd s l)):=by
 have A:=aY s;have C:(kM l).length=l.length:=by simp[kM]
 by_cases E:s.length<l.length
 ·rw[Fc s l E];have W:decide ((((aE s).length:Nat):Int)<(((kM l).length:Nat):Int))=true:=aan (by rw[A,C];omega);refine qn Tryz.func99 Tryz.call99 fun β hf=>?_;exact dw
 have W:decide ((((aE s).length:Nat):Int)<(((kM l).length:Nat):Int))=false:=aaw (by rw[A,C];omega);refine qn Tryz.func99 Tryz.call99 fun β hf=>?_
 repeat' (first|refine qo ?_|(refine zc ?_ ?_<;>intro h<;>first|(cases h;done)|rw[h]|skip)|((first|refine zt ?_|refine zu ?_ ?_)<;>intro h<;>(fail_if_success (cases h;done))<;>rw[h]))
 refine AK.eM (α:=Nat) (fun i=>i<=l.length/\gd s l=gd (s.drop i) (l.drop i)) (fun i=>l.length-i)
  (fun i=>[(14,.c (.int .i64 i)),(13,.c (.int .i64 (kM l).length)),(12,.c (.sl 1 (kM l))),(0,.c (.sl 2 (aE s)))]) (fun _=>[]) (fun _=>[]) [] 0
  ⟨bn,rfl⟩ ⟨.inl rfl,.inl rfl,.inl rfl,.inl rfl,trivial⟩ trivial trivial rfl rfl rfl ?_
 rintro i ⟨I,p⟩ ih;rcases gf l i I with ⟨k,D,u⟩|P
 ·have E:=Ue D;have h2:=bD D;obtain⟨t,M⟩:∃t,s[i]?=some t:=⟨s[i]' bn,cn⟩
  rw[WA M D]at p;obtain⟨T,us⟩:=t;by_cases Y:k=0
  ·subst Y;rw[aan rfl,Bool.true_or,Bool.true_and]at p
   repeat' (first|refine qo ?_|(refine zc ?_ ?_<;>intro h<;>first|(cases h;done)|rw[h]|skip)|refine uI rfl (i) rfl (ints_at D) rfl ?_|refine uI rfl (i) rfl (fQ M) rfl ?_|((first|refine zt ?_|refine zu ?_ ?_)<;>intro h<;>(fail_if_success (cases h;done))<;>rw[h]))
   refine AK.again (ih (i+1) ⟨h2,p⟩ bn) ⟨.inl (iD bn),.inl rfl,.inl rfl,.inl rfl,trivial⟩ trivial trivial rfl rfl rfl
  have Q:(k != 0)=true:=by simpa using Y
  by_cases K:T=k
  ·have B:(T != k)=false:=by simpa using K
   rw[aan (show bS (.mk T us)=k from K),Bool.or_true,Bool.true_and]at p
   repeat' (first|refine qo ?_|(refine zc ?_ ?_<;>intro h<;>first|(cases h;done)|rw[h]|skip)|refine uI rfl (i) rfl (ints_at D) rfl ?_|refine uI rfl (i) rfl (fQ M) rfl ?_|((first|refine zt ?_|refine zu ?_ ?_)<;>intro h<;>(fail_if_success (cases h;done))<;>rw[h]))
   refine AK.again (ih (i+1) ⟨h2,p⟩ bn) ⟨.inl (iD bn),.inl rfl,.inl rfl,.inl rfl,trivial⟩ trivial trivial rfl rfl rfl
  ·have B:(T != k)=true:=by simpa using K
   rw[aaw (show ¬bS (.mk T us)=k from K),aaw Y,Bool.or_false,Bool.false_and]at p;rw[p];clear ih;have O:=ints_at D;have N:=fQ M;exact dw
 ·have E:=QV P;have V:gd s l=true:=by rw[p,P,List.drop_length,aV]
  rw[V];clear ih;exact dw
end Go.Proofs
namespace Go.cu
theorem vI (w a:Nat):(BitVec.ofInt w (a:Int)).toNat=a%2^w:=by
 rw[BitVec.ofInt_natCast,BitVec.toNat_ofNat]
theorem NM {a:Nat} (h:a<9223372036854775808) (k:Nat) (D:k<63):IntKind.i64.wrap (((BitVec.ofInt 64 (a:Int))&&&(BitVec.ofInt 64 ((2^k-1:Nat):Int))).toNat)=((a%2^k:Nat):Int):=by
 have h2:(2:Nat)^k<=2^62:=Nat.pow_le_pow_right bn bn;have V:0<(2:Nat)^k:=Nat.pow_pos bn;rw[BitVec.toNat_and,vI,vI,Nat.mod_eq_of_lt (show a<2^64 by omega),Nat.mod_eq_of_lt (show 2^k-1<2^64 by omega),Nat.and_two_pow_sub_one_eq_mod];have Y:a%2^k<2^k:=Nat.mod_lt _ V;exact gZ bn bn
theorem IG {a:Nat} (h:a<9223372036854775808):IntKind.i64.wrap (((BitVec.ofInt 64 (a:Int))&&&(BitVec.ofInt 64 63)).toNat)=((a%64:Nat):Int):=NM h 6 (by omega)
theorem QW {a:Nat} (h:a<9223372036854775808):IntKind.i64.wrap (((BitVec.ofInt 64 (a:Int))&&&(BitVec.ofInt 64 127)).toNat)=((a%128:Nat):Int):=NM h 7 (by omega)
theorem Lp {a:Nat} (h:a<256):IntKind.u8.wrap (a:Int)=a:=by
 have:=nr (a:Int);rw[iO a h]at this;exact this.symm
theorem WB:∀c:Fin 128,IntKind.u8.wrap (((BitVec.ofInt 8 ((c.val:Nat):Int))|||(BitVec.ofInt 8 128)).toNat)=((c.val+128:Nat):Int):=by decide +kernel
theorem YA {c:Nat} (h:c<128):IntKind.u8.wrap (((BitVec.ofInt 8 (c:Int))|||(BitVec.ofInt 8 128)).toNat)=((c+128:Nat):Int):=WB ⟨c,h⟩
theorem Uf:∀x:Fin 64,IntKind.u8.wrap (((BitVec.ofInt 8 64)|||(BitVec.ofInt 8 ((x.val:Nat):Int))).toNat)=((64+x.val:Nat):Int):=by decide +kernel
theorem or_none:∀x:Fin 64,IntKind.u8.wrap (((BitVec.ofInt 8 0)|||(BitVec.ofInt 8 ((x.val:Nat):Int))).toNat)=((0+x.val:Nat):Int):=by decide +kernel
theorem Pe:∀c:Fin 256,(IntKind.i64.wrap (((BitVec.ofInt 64 ((c.val:Nat):Int))&&&(BitVec.ofInt 64 64)).toNat) != 0)=decide (c.val/64%2=1):=by decide +kernel
theorem QX {c:Nat} (h:c<256):(IntKind.i64.wrap (((BitVec.ofInt 64 (c:Int))&&&(BitVec.ofInt 64 64)).toNat) != 0)=decide (c/64%2=1):=Pe ⟨c,h⟩
theorem QY {n x H:Nat} (O:n<2^H) (N:x<128) (Y:H<=55):IntKind.i64.wrap (((BitVec.ofInt 64 (n:Int))|||(BitVec.ofInt 64 (IntKind.i64.wrap ((x:Int)*2^(min H 64))))).toNat)=((n+x*2^H:Nat):Int):=by
 have h2:(2:Nat)^H<=2^55:=Nat.pow_le_pow_right bn Y;have V:x*2^H<=127*2^55:=Nat.mul_le_mul bn h2;have e:(x:Int)*2^(min H 64)=((x*2^H:Nat):Int):=by
  rw[Nat.min_eq_left bn];simp
 rw[e,gZ (n:=((x*2^H:Nat):Int)) bn bn,BitVec.toNat_or,vI,vI,Nat.mod_eq_of_lt (show n<2^64 by omega),Nat.mod_eq_of_lt (show x*2^H<2^64 by omega)];rw[Nat.or_comm,<- Nat.shiftLeft_eq,<- Nat.shiftLeft_add_eq_or_of_lt O x,Nat.shiftLeft_eq,Nat.add_comm];exact gZ bn bn
theorem BU (a k:Nat):(a:Int).fdiv (2^k)=((a/2^k:Nat):Int):=by
 rw[Int.fdiv_eq_ediv_of_nonneg _ (by exact Int.le_of_lt (Int.pow_pos bn))];simp
end Go.cu
