/- What kind.good and kind.Good, and goodType and GoodType of touchstoneref answer. What kind.Good and kind.parse answer. What kind.Parse, node and Node answer, and the sentences that ask whether kind answers at all. What slices.EqualFunc answers, and Same of kind, SameType and SameNode of touchstonere -/
import Derived.Test.YtlohbilpimjmmaaGreatDoorKind5
import Derived.Test.YtlohbilpimjmmaaGreatDoorTPure
set_option maxHeartbeats 0
set_option linter.unusedVariables false
set_option linter.unusedSimpArgs false
namespace Go.Proofs
open Go.cq
theorem Cs {args:List Ty} {x:Ty} (h:args[0]?=some x):kj args=fC x:=by
 cases args with
 | nil=>simp at h
 | cons y l=>simp at h;subst h;rfl
theorem Q4 (T:Int) (args:List Ty) (d n:Int) (D:¬(d>24\/n+1>300\/arity T≠args.length)) :
  eN (.mk T args) d n=((dL args (d+1) (n+1)).1&&(if T=13\/T=15 then kj args else true),(dL args (d+1) (n+1)).2):=by
 simp only[eN,if_neg D];rcases dL args (d+1) (n+1)with ⟨b,m⟩
 cases b<;>rfl
theorem LD (d m:Int):dL [] d m=(true,m):=rfl
theorem IX (T:Int) (args:List Ty) (d n:Int) (D:d>24\/n+1>300\/arity T≠args.length):eN (.mk T args) d n=(false,n+1):=by
 simp only[eN,if_pos D]
theorem IY (t:Ty) (l:List Ty) (d n:Int):dL (t::l) d n=if(eN t d n).1 then dL l d (eN t d n).2 else(false,(eN t d n).2):=by
 simp only[dL];rcases eN t d n with ⟨b,m⟩
 cases b<;>rfl
attribute [local irreducible] AK ai bh bt eN dL kj fC
theorem Ct:∀(t:Ty) (d n:Int),bA t<=8589934593->0<=d->d<=1099511627776-bA t->0<=n->n<=300 ->
  fG 35 [.v (.c (eB t)),.v (.c (.int .i64 d)),.box [.c (.int .i64 n)]] [.c (.bool (eN t d n).1)] [(2,[.c (.int .i64 (eN t d n).2)])]
 | .mk T args=>by
  intro d n G LF p E hn;simp only[bA]at G p;have IQ:=gn args;have O:∀x∈args,∀m:Int,0<=m->m<=300->fG 35 [.v (.c (eB x)),.v (.c (.int .i64 (IntKind.i64.wrap (d+1)))),.box [.c (.int .i64 m)]] [.c (.bool (eN x (d+1) m).1)] [(2,[.c (.int .i64 (eN x (d+1) m).2)])]:=by
   intro x q m A h1;have:=cz q;rw[gW bn bn];exact Ct x (d+1) m bn bn bn A h1
  have C:IntKind.i64.wrap (n+1)=n+1:=gW bn bn;refine bt.tQ Tryz.func35 rfl (fun args w=>Tryz.call35 args w) (Nat.le_of_ble_eq_true rfl) [(0,.c (eB (.mk T args))),(1,.c (.int .i64 d)),(2,.ptr 1002000 0)] [(1002000,[.c (.int .i64 n)])] [] [1002000] rfl rfl fun β=>?_;have hf:=Tryz.func35
  repeat' (first|refine nP ?_|refine zr ?_ ?_|(refine zc ?_ ?_<;>intro h<;>first|(cases h;done)|rw[h]|skip)|refine uC rfl (um T) ?_|((first|refine GK ?_|refine zu ?_ ?_)<;>intro h<;>(fail_if_success (cases h;done))<;>rw[h]))
  rotate_left 6
  ·refine AK.eK (α:=Nat×Int) (fun z=>z.1<=args.length/\dL args (d+1) (n+1)=dL (args.drop z.1) (d+1) z.2/\0<=z.2/\z.2<=300) (fun z=>args.length-z.1)
    (fun z=>[(34,.c (.int .i64 z.1)),(33,.c (.int .i64 (aq args).length)),(32,.c (.sl 2 (aq args))),(1,.c (.int .i64 d)),(2,.ptr 1002000 0),(3,.ptr 3 0)])
    (fun z=>[(3,[.c (.int .i64 T),.c (.sl 2 (aq args))]),(1002000,[.c (.int .i64 z.2)])]) (fun _=>[]) [3,1002000] (0,n+1)
    ⟨bn,rfl,bn,?_⟩ ⟨.inl rfl,.inl rfl,.inl rfl,.inl rfl,.inl rfl,.inl rfl,trivial⟩ ⟨rfl,congrArg (fun k=>some [AV.c (CV.int .i64 k)]) C,trivial⟩ trivial rfl rfl rfl ?_
   ·simp_all
   rintro⟨i,m⟩ ⟨I,W,S,P⟩ ih;simp only at I W S P;have D:¬(d>24\/n+1>300\/arity T≠args.length):=by
    rename_i g1 g2;simp only[cond_false,C,decide_eq_false_iff_not,bne_eq_false_iff_eq,aQ]at g1 g2 h;rintro(M|M|M)
    ·omega
    ·omega
    ·exact M h
   have N:=Q4 T args d n D;rcases fT args i I with ⟨x,q,Q⟩|H
   ·have hc:=Cu q;have hq:=O x Q m S P;have J:=rL x (d+1) m P;rw[dV q]at W;rw[IY]at W;obtain⟨U,us⟩:=x
    repeat' (first|refine nP ?_|refine zr ?_ ?_|(refine zc ?_ ?_<;>intro h<;>first|(cases h;done)|rw[h]|skip)|refine uI rfl (i) rfl (fH q) rfl ?_|refine lE ?_ (hq:=hq)|((first|refine GK ?_|refine zu ?_ ?_)<;>intro h<;>(fail_if_success (cases h;done))<;>rw[h]))
    ·have hf:(eN (.mk U us) (d+1) m).1=false:=by simpa using h
     rw[hf]at W;rw[N,W];rfl
    ·have hf:(eN (.mk U us) (d+1) m).1=false:=by simpa using h
     rw[hf]at W;rw[N,W];rfl
    ·have hf:(eN (.mk U us) (d+1) m).1=true:=by simpa using h
     rw[hf]at W;refine AK.again (ih (i+1,(eN (.mk U us) (d+1) m).2) ⟨bB q,W,bn,J.2.2 hf⟩ (by have:=bB q;show args.length-(i+1)<args.length-i;omega))
      ⟨.inl (iE (by have:=bB q;omega)),.inl rfl,.inl rfl,.inl rfl,.inl rfl,.inl rfl,trivial⟩ ⟨rfl,rfl,trivial⟩ trivial rfl rfl rfl
   ·have hc:=yu H;have hG:dL args (d+1) (n+1)=(true,m):=by rw[W,H,List.drop_length,LD]
    rw[hG]at N;by_cases Y:T=13\/T=15
    ·obtain⟨B,V⟩:∃x,args[0]?=some x:=by
      have h1:arity T>=1:=by rcases Y with rfl|rfl<;>decide
      have h2:0<args.length:=by simp only[not_or,ne_eq,Decidable.not_not]at D;omega
      exact⟨args[0],by simp[h2]⟩
     have K:=kO B (by have:=cz (aaw V);omega);rw[if_pos Y,Cs V]at N;clear ih O;obtain⟨U,us⟩:=B
     repeat' (first|refine nP ?_|refine zr ?_ ?_|(refine zc ?_ ?_<;>intro h<;>first|(cases h;done)|rw[h]|skip)|refine uI rfl (0) rfl (fH V) rfl ?_|refine uC rfl K ?_|((first|refine GK ?_|refine zu ?_ ?_)<;>intro h<;>(fail_if_success (cases h;done))<;>rw[h]))
     all_goals first
      | (show(_:List LV)=_;rw[N];first|rfl|(simp;done)|(exfalso;simp_all;done))
      | (show(_:List (Nat×List LV))=_;rw[N];done)
      | (show(_:List (Nat×List LV))=_;rw[N];rfl)
      | (exfalso;clear hf N W;simp_all;done)
    ·rw[if_neg Y]at N;clear ih O
     repeat' (first|refine nP ?_|refine zr ?_ ?_|(refine zc ?_ ?_<;>intro h<;>first|(cases h;done)|rw[h]|skip)|((first|refine GK ?_|refine zu ?_ ?_)<;>intro h<;>(fail_if_success (cases h;done))<;>rw[h]))
     all_goals first
      | (show(_:List LV)=_;rw[N];first|rfl|(simp;done)|(exfalso;simp_all;done))
      | (show(_:List (Nat×List LV))=_;rw[N];done)
      | (show(_:List (Nat×List LV))=_;rw[N];rfl)
      | (exfalso;clear hf N W;simp_all;done)
  all_goals
   have u:d>24\/n+1>300\/arity T≠args.length:=by
    clear O hf
    first
    | (left;simp_all;done)
    | (right;left;simp_all;done)
    | (right;right;simp_all [aQ];done)
   first
   | (show(_:List LV)=_;rw[IX T args d n u])
   | (show(_:List (Nat×List LV))=_;rw[IX T args d n u,C])
termination_by t=>SizeOf.sizeOf t
decreasing_by
 have:=List.sizeOf_lt_of_mem q;simp at this ⊢;omega
end Go.Proofs
namespace Go.Proofs
open Go.cq
theorem Fi (kind A p:Int) (s:List UInt8) (args:List Nd) (d left:Int) (h:left-1<0\/d>24\/kind≠2\/A≠0\/s≠[]\/arity p≠args.length):fA (.mk kind A p s args) d left=(none,left-1):=by
 simp only[fA,if_pos h]
theorem Pw (kind A p:Int) (s:List UInt8) (args:List Nd) (d left:Int) (h:¬(left-1<0\/d>24\/kind≠2\/A≠0\/s≠[]\/arity p≠args.length)) :
  fA (.mk kind A p s args) d left=((dM args (d+1) (left-1)).1.map (.mk p),(dM args (d+1) (left-1)).2):=by
 simp only[fA,if_neg h];rcases dM args (d+1) (left-1)with ⟨b,m⟩
 cases b<;>rfl
theorem I0 (d m:Int):dM [] d m=(some [],m):=rfl
theorem GL (t:Nd) (l:List Nd) (d n:Int):dM (t::l) d n=match (fA t d n).1 with
  | some y=>((dM l d (fA t d n).2).1.map (y :: ·),(dM l d (fA t d n).2).2)
  | none=>(none,(fA t d n).2):=by
 simp only[dM];rcases fA t d n with ⟨b,m⟩
 cases b with
 | none=>rfl
 | some y =>
  simp only;rcases dM l d m with ⟨r,Y⟩
  cases r<;>rfl
theorem ef {l:List Nd} {i:Nat} {x:Nd} (h:l[i]?=some x):(aI l)[i]?=some (aX x):=by rw[Cv,h];rfl
theorem lW {l:List Nd} {i:Nat} {x:Nd} (h:l[i]?=some x):decide (((i:Nat):Int)<(((aI l).length:Nat):Int))=true:=dec_lt (by have:=bB h;rw[br];omega)
theorem js {l:List Nd} {i:Nat} (h:i=l.length):decide (((i:Nat):Int)<(((aI l).length:Nat):Int))=false:=GM (by rw[br];omega)
theorem hJ:∀(a:List Ty) (b:List Ty),aq (a++b)=aq a++aq b
 | [],b=>rfl
 | t::a,b=>by simp[aq,hJ a b]
theorem lM:∀(a:List Nd) (b:List Nd),aI (a++b)=aI a++aI b
 | [],b=>rfl
 | t::a,b=>by simp[aI,lM a b]
theorem kP {i:Nat} (h:i<1099511627776):AV.c (CV.int .i64 (IntKind.i64.wrap ((i:Int)+1)))=AV.c (CV.int .i64 ((i+1:Nat):Int)):=by
 rw[gW bn bn];rfl
def Fj:Option Ty->Ty
 | some t=>t
 | none => .mk 0 []
attribute [local irreducible] AK ai bh bt eN dL kj fC fA dM
theorem nA (t:Ty) (M:bA t<=8589934593):ag 19 [eB t] (.bool (bw t)):=by
 have hq:=Ct t 1 0 M bn bn bn bn;obtain⟨T,args⟩:=t;refine qn Tryz.func19 Tryz.call19 fun β hf=>?_
 repeat' (first|refine nP ?_|refine lE ?_ (hq:=hq))
 rfl
theorem AZ:∀(n:Nd) (d left:Int),b8 n<=8589934593->0<=d->d<=1099511627776-b8 n->0<=left->left<=300 ->
  fG 92 [.v (.c (aX n)),.v (.c (.int .i64 d)),.box [.c (.int .i64 left)]] [.c (eB (Fj (fA n d left).1)),.c (.bool (fA n d left).1.isSome)] [(2,[.c (.int .i64 (fA n d left).2)])]
 | .mk kind A p s args=>by
  intro d left K LF H G hn;simp only[b8]at K H;have IQ:=fP args;have N:∀x∈args,∀m:Int,0<=m->m<=300->fG 92 [.v (.c (aX x)),.v (.c (.int .i64 (IntKind.i64.wrap (d+1)))),.box [.c (.int .i64 m)]] [.c (eB (Fj (fA x (d+1) m).1)),.c (.bool (fA x (d+1) m).1.isSome)] [(2,[.c (.int .i64 (fA x (d+1) m).2)])]:=by
   intro x O m E h1;have:=er O;rw[gW bn bn];exact AZ x (d+1) m bn bn bn E h1
  have C:IntKind.i64.wrap (left-1)=left-1:=gW bn bn;refine bt.tQ Tryz.func92 rfl (fun args w=>Tryz.call92 args w) (Nat.le_of_ble_eq_true rfl) [(0,.c (aX (.mk kind A p s args))),(1,.c (.int .i64 d)),(2,.ptr 1002000 0)] [(1002000,[.c (.int .i64 left)])] [] [1002000] rfl rfl fun β=>?_;have hf:=Tryz.func92
  repeat' (first|refine nP ?_|refine zr ?_ ?_|(refine zc ?_ ?_<;>intro h<;>first|(cases h;done)|rw[h]|skip)|refine uC rfl (um p) ?_|(refine uA rfl ?_ ?_<;>(try (show(_:Nat)*_<=_;dsimp only)))|((first|refine GK ?_|refine zu ?_ ?_)<;>intro h<;>(fail_if_success (cases h;done))<;>rw[h]))
  rotate_left 12
  ·refine AK.fW [(6,6),(8,8),(1002000,1002000)] [(8000,(0,none))] (env':=[(57,.c (.int .i64 (0:Nat))),(56,.c (.int .i64 (aI args).length)),(55,.c (.sl 5 (aI args))),(1,.c (.int .i64 d)),(2,.ptr 1002000 0),(6,.ptr 6 0),(8,.ptr 8 0)])
    (bs':=[(6,[.c (.int .i64 0),.own .exact 2 []]),(8,[.c (.int .i64 p),.own (.tok 8000 0) 2 []]),(1002000,[.c (.int .i64 (left-1))])]) (ts':=[(8000,0)]) (us':=[6,8,1002000,8000])
    ⟨⟨_,rfl,.inl rfl⟩,⟨_,rfl,.inl rfl⟩,⟨_,rfl,.inl rfl⟩,⟨_,rfl,.inl rfl⟩,⟨_,rfl,⟨_,rfl,rfl⟩⟩,⟨_,rfl,⟨_,rfl,rfl⟩⟩,⟨_,rfl,⟨_,rfl,rfl⟩⟩,trivial⟩
    ⟨⟨_,_,rfl,rfl,⟨_,_,rfl,.inl rfl,⟨_,_,rfl,rfl,rfl⟩⟩⟩,⟨_,_,rfl,rfl,⟨_,_,rfl,.inl rfl,⟨_,_,rfl,⟨_,rfl,.inl ⟨rfl,_,rfl,.inr rfl⟩⟩,rfl⟩⟩⟩,⟨_,_,rfl,rfl,⟨_,_,rfl,.inl (congrArg (fun k=>AV.c (.int .i64 k)) C),rfl⟩⟩,trivial⟩ rfl ?_
   refine AK.eK (α:=Nat×List Ty×Int) (fun z=>z.1<=args.length/\z.1=z.2.1.length/\dM args (d+1) (left-1)=((dM (args.drop z.1) (d+1) z.2.2).1.map (z.2.1 ++ ·),(dM (args.drop z.1) (d+1) z.2.2).2)/\0<=z.2.2/\z.2.2<=300) (fun z=>args.length-z.1)
    (fun z=>[(57,.c (.int .i64 z.1)),(56,.c (.int .i64 (aI args).length)),(55,.c (.sl 5 (aI args))),(1,.c (.int .i64 d)),(2,.ptr 1002000 0),(6,.ptr 6 0),(8,.ptr 8 0)])
    (fun z=>[(6,[.c (.int .i64 0),.own .exact 2 []]),(8,[.c (.int .i64 p),.own (.tok 8000 0) 2 (aq z.2.1)]),(1002000,[.c (.int .i64 z.2.2)])]) (fun _=>[(8000,0)]) [6,8,1002000,8000] (0,[],left-1)
    ⟨bn,rfl,c9,?_,by show left-1<=300;omega⟩ ⟨.inl rfl,.inl rfl,.inl rfl,.inl rfl,.inl rfl,.inl rfl,.inl rfl,trivial⟩ ⟨rfl,rfl,rfl,trivial⟩ ⟨rfl,trivial⟩ rfl rfl rfl ?_
   ·have:¬(left-1<0):=by simp_all
    show 0<=left-1;omega
   rintro⟨i,acc,m⟩ ⟨I,Q,T,Y,P⟩ ih;simp only at I Q T Y P;have D:¬(left-1<0\/d>24\/kind≠2\/A≠0\/s≠[]\/arity p≠args.length):=by
    clear ih N hf;simp_all [br]
   have W:=Pw kind A p s args d left D;rcases fT args i I with ⟨x,O,V⟩|M
   ·have q:=lW O;have hq:=N x V m Y P;have J:=Fk x (d+1) m Y;rw[dV O,GL]at T;rcases hr:fA x (d+1) m with ⟨b,S⟩
    rw[hr]at hq J T;obtain⟨xk,xn,xp,xs,xa⟩:=x;cases b with
    | none =>
     simp only[Fj,Option.isSome_none]at hq T
     repeat' (first|refine nP ?_|refine zr ?_ ?_|(refine zc ?_ ?_<;>intro h<;>first|(cases h;done)|rw[h]|skip)|refine uI rfl (i) rfl (ef O) rfl ?_|refine lE ?_ (hq:=hq)|(refine uA rfl ?_ ?_<;>(try (show(_:Nat)*_<=_;dsimp only)))|((first|refine GK ?_|refine zu ?_ ?_)<;>intro h<;>(fail_if_success (cases h;done))<;>rw[h]))
     ·rw[W,T];rfl
     ·rw[W,T]
    | some y =>
     obtain⟨U,us⟩:=y;simp only[Fj,Option.isSome_some]at hq T
     repeat' (first|refine nP ?_|refine zr ?_ ?_|(refine zc ?_ ?_<;>intro h<;>first|(cases h;done)|rw[h]|skip)|refine uI rfl (i) rfl (ef O) rfl ?_|refine lE ?_ (hq:=hq)|(refine uA rfl ?_ ?_<;>(try (show(_:Nat)*_<=_;dsimp only)))|((first|refine GK ?_|refine zu ?_ ?_)<;>intro h<;>(fail_if_success (cases h;done))<;>rw[h]))
     ·have h1:=aQ acc;have h2:=bB O;simp only[aac,aad];omega
     ·have B:aq acc++[eB (.mk U us)]=aq (acc++[Ty.mk U us]):=(hJ acc [.mk U us]).symm;refine AK.fW [(6,6),(8,8),(1002000,1002000)] [(8000,(0,some 8000))] (env':=[(57,.c (.int .i64 ((i+1:Nat):Int))),(56,.c (.int .i64 (aI args).length)),(55,.c (.sl 5 (aI args))),(1,.c (.int .i64 d)),(2,.ptr 1002000 0),(6,.ptr 6 0),(8,.ptr 8 0)])
       (bs':=[(6,[.c (.int .i64 0),.own .exact 2 []]),(8,[.c (.int .i64 p),.own (.tok 8000 0) 2 (aq (acc++[Ty.mk U us]))]),(1002000,[.c (.int .i64 S)])]) (ts':=[(8000,0)]) (us':=[6,8,1002000,8000])
       ⟨⟨_,rfl,.inl (kP (i:=i) sk)⟩,⟨_,rfl,.inl rfl⟩,⟨_,rfl,.inl rfl⟩,⟨_,rfl,.inl rfl⟩,⟨_,rfl,⟨_,rfl,rfl⟩⟩,⟨_,rfl,⟨_,rfl,rfl⟩⟩,⟨_,rfl,⟨_,rfl,rfl⟩⟩,trivial⟩
       ⟨⟨_,_,rfl,rfl,⟨_,_,rfl,.inl rfl,⟨_,_,rfl,rfl,rfl⟩⟩⟩,⟨_,_,rfl,rfl,⟨_,_,rfl,.inl rfl,⟨_,_,rfl,⟨_,rfl,.inr ⟨_,_,rfl,rfl,congrArg (AV.own (.tok 8000 1) 2) B⟩⟩,rfl⟩⟩⟩,⟨_,_,rfl,rfl,⟨_,_,rfl,.inl rfl,rfl⟩⟩,trivial⟩ rfl ?_
      refine ih (i+1,acc++[Ty.mk U us],S) ⟨bB O,by simp[Q],?_,?_,?_⟩ (by have:=bB O;show args.length-(i+1)<args.length-i;omega)
      ·show dM args (d+1) (left-1)=_;rw[T];rcases dM (List.drop (i+1) args) (d+1) S with ⟨r,m2⟩
       cases r<;>simp
      ·exact J.2.2 c9
      ·have:=J.1;show S<=300;simp only at this;omega
   ·have q:=js M;have hG:dM args (d+1) (left-1)=(some acc,m):=by rw[T,M,List.drop_length,I0];simp
    rw[hG]at W;clear ih N
    repeat' (first|refine nP ?_|refine zr ?_ ?_|(refine zc ?_ ?_<;>intro h<;>first|(cases h;done)|rw[h]|skip)|(refine uA rfl ?_ ?_<;>(try (show(_:Nat)*_<=_;dsimp only)))|((first|refine GK ?_|refine zu ?_ ?_)<;>intro h<;>(fail_if_success (cases h;done))<;>rw[h]))
    ·rw[W];rfl
    ·rw[W]
  all_goals
   have u:left-1<0\/d>24\/kind≠2\/A≠0\/s≠[]\/arity p≠args.length:=by
    clear N hf
    first
    | (left;simp_all;done)
    | (right;left;simp_all;done)
    | (right;right;left;simp_all;done)
    | (right;right;right;left;simp_all;done)
    | (right;right;right;right;left;simp_all;done)
    | (right;right;right;right;right;simp_all [br];done)
   first
   | (show(_:List LV)=_;rw[Fi kind A p s args d left u];rfl)
   | (show(_:List (Nat×List LV))=_;rw[Fi kind A p s args d left u,C])
termination_by t=>SizeOf.sizeOf t
decreasing_by
 have:=List.sizeOf_lt_of_mem O;simp at this ⊢;omega
end Go.Proofs
namespace Go.Proofs
open Go.cq
mutual
theorem uo:∀(n:Nd) (d left:Int) (t:Ty) (m:Int),fA n d left=(some t,m)->bA t<=b8 n
 | .mk kind A p s args,d,left,t,m,h=>by
  simp only[fA]at h;split at h
  ·simp at h
  ·rcases D:dM args (d+1) (left-1)with ⟨b,Y⟩
   rw[D]at h;cases b with
   | none=>simp at h
   | some l =>
    simp at h;have:=yw args (d+1) (left-1) l Y D;rw[<- h.1];simp only[bA,b8];omega
theorem yw:∀(l:List Nd) (d left:Int) (r:List Ty) (m:Int),dM l d left=(some r,m)->aY r<=aU l
 | [],d,left,r,m,h=>by simp[dM]at h;rw[h.1];simp[aY]
 | x::l,d,left,r,m,h=>by
  simp only[dM]at h;rcases D:fA x d left with ⟨b,Y⟩
  rw[D]at h;cases b with
  | none=>simp at h
  | some t =>
   simp only at h;rcases B:dM l d Y with ⟨P,I⟩
   rw[B]at h;cases P with
   | none=>simp at h
   | some q =>
    simp at h;have h1:=uo x d left t Y D;have h2:=yw l d Y q I B;rw[<- h.1];simp only[aY,aU];omega
end
attribute [local irreducible] AK ai bh bt eN dL kj fC fA dM bw
theorem ko (n:Nd) (W:b8 n<=8589934593):ag 61 [aX n] (.gy [eB (aZ n).1,.int .i64 (aZ n).2]):=by
 have hq:=AZ n 1 300 W bn bn bn bn;rcases I:fA n 1 300 with ⟨b,m⟩
 rw[I]at hq;have Y:=uo n 1 300;rw[I]at Y;cases b with
 | none =>
  have C:aZ n=(.mk 0 [],1):=by simp only[aZ,I]
  rw[C];simp only[Fj,Option.isSome_none]at hq;obtain⟨k,a,p,s,l⟩:=n;refine qn Tryz.func61 Tryz.call61 fun β hf=>?_
  repeat' (first|refine nP ?_|(refine zc ?_ ?_<;>intro h<;>first|(cases h;done)|rw[h]|skip)|refine lE ?_ (hq:=hq)|((first|refine GK ?_|refine zu ?_ ?_)<;>intro h<;>(fail_if_success (cases h;done))<;>rw[h]))
  rfl
 | some t =>
  have E:=nA t (Nat.le_trans (Y t m rfl) W);have C:aZ n=if bw t then(t,0)else(.mk 0 [],1):=by simp only[aZ,I]
  rw[C];obtain⟨U,us⟩:=t;simp only[Fj,Option.isSome_some]at hq;obtain⟨k,a,p,s,l⟩:=n;cases G:bw (.mk U us)
  all_goals
   rw[G]at E;refine qn Tryz.func61 Tryz.call61 fun β hf=>?_
   repeat' (first|refine nP ?_|(refine zc ?_ ?_<;>intro h<;>first|(cases h;done)|rw[h]|skip)|refine lE ?_ (hq:=hq)|refine uC rfl E ?_|((first|refine GK ?_|refine zu ?_ ?_)<;>intro h<;>(fail_if_success (cases h;done))<;>rw[h]))
   rfl
end Go.Proofs
set_option maxRecDepth 100000
namespace Go.Proofs
open Go.cq
attribute [local irreducible] AK ai bh bt
def qw {α:Type} (q:α->α->Bool):List α->List α->Bool
 | [],[]=>true
 | x::l,y::r=>q x y&&qw q l r
 | _,_=>false
theorem yx {α:Type} (q:α->α->Bool):∀(l r:List α),l.length≠r.length->qw q l r=false
 | [],[],h=>by simp at h
 | [],_::_,_=>rfl
 | _::_,[],_=>rfl
 | x::l,y::r,h=>by simp[qw,yx q l r nu]
theorem yy:∀(l r:List Ty),qw cP l r=gI l r
 | [],[]=>rfl
 | [],_::_=>rfl
 | _::_,[]=>rfl
 | x::l,y::r=>by simp[qw,gI,yy l r]
theorem Cx:∀(l r:List Nd),qw oF l r=jS l r
 | [],[]=>rfl
 | [],_::_=>rfl
 | _::_,[]=>rfl
 | x::l,y::r=>by simp[qw,jS,Cx l r]
theorem Cy {α:Type} (q:α->α->Bool) {l r:List α} {i:Nat} (h:l.length=r.length) (W:i=l.length):qw q (l.drop i) (r.drop i)=true:=by
 subst W;rw[List.drop_length,h,List.drop_length];rfl
theorem pI (l r:List Ty) (q:Ty->Ty->Bool) (f:FuncId) (Y:List CV) (S:∀x∈l,∀y∈r,ag f (eB x::eB y::Y) (.bool (q x y))) (V:l.length<=1099511627776) :
  ag 28 [.sl 2 (aq l),.sl 2 (aq r),.rM f Y] (.bool (qw q l r)):=by
 by_cases A:l.length=r.length
 ·have J:((((aq l).length:Nat):Int) != (((aq r).length:Nat):Int))=false:=by rw[aQ,aQ,A];simp
  refine qn Tryz.func28 Tryz.call28 fun β hf=>?_
  repeat' (first|refine nP ?_|(refine zc ?_ ?_<;>intro h<;>first|(cases h;done)|rw[h]|skip))
  refine AK.eK (α:=Nat) (fun i=>i<=l.length/\qw q l r=qw q (l.drop i) (r.drop i)) (fun i=>l.length-i)
   (fun i=>[(17,.c (.int .i64 i)),(16,.c (.int .i64 (aq l).length)),(15,.c (.sl 2 (aq l))),(1,.c (.sl 2 (aq r))),(2,.c (.rM f Y))]) (fun _=>[]) (fun _=>[]) [] 0
   ⟨bn,rfl⟩ ⟨.inl rfl,.inl rfl,.inl rfl,.inl rfl,.inl rfl,trivial⟩ trivial trivial rfl rfl rfl ?_
  rintro i ⟨I,W⟩ ih;rcases fT l i I with ⟨x,O,M⟩|P
  ·have E:=Cu O;obtain⟨y,N⟩:∃y,r[i]?=some y:=⟨r[i]' sk,c9⟩
   have hq:=S x M y (aaw N);rw[dV O,dV N]at W;simp only[qw]at W;obtain⟨T,args⟩:=x;obtain⟨U,us⟩:=y
   repeat' (first|refine nP ?_|(refine zc ?_ ?_<;>intro h<;>first|(cases h;done)|rw[h]|skip)|refine uI rfl (i) rfl (fH O) rfl ?_|refine uI rfl (i) rfl (fH N) rfl ?_|refine uC rfl hq ?_)
   ·rw[W];simp_all
   ·refine AK.again (ih (i+1) ⟨bB O,?_⟩ sk) ⟨.inl (iE sk),.inl rfl,.inl rfl,.inl rfl,.inl rfl,trivial⟩ trivial trivial rfl rfl rfl;simp_all
  ·have E:=yu P
   repeat' (first|refine nP ?_|(refine zc ?_ ?_<;>intro h<;>first|(cases h;done)|rw[h]|skip))
   rw[W,Cy q A P]
 ·have J:((((aq l).length:Nat):Int) != (((aq r).length:Nat):Int))=true:=by rw[aQ,aQ];simp;omega
  rw[yx q l r A];refine qn Tryz.func28 Tryz.call28 fun β hf=>?_;exact dq
theorem uq (l r:List Nd) (q:Nd->Nd->Bool) (f:FuncId) (W:List CV) (V:∀x∈l,∀y∈r,ag f (aX x::aX y::W) (.bool (q x y))) (Y:l.length<=1099511627776) :
  ag 30 [.sl 5 (aI l),.sl 5 (aI r),.rM f W] (.bool (qw q l r)):=by
 by_cases A:l.length=r.length
 ·have J:((((aI l).length:Nat):Int) != (((aI r).length:Nat):Int))=false:=by rw[br,br,A];simp
  refine qn Tryz.func30 Tryz.call30 fun β hf=>?_
  repeat' (first|refine nP ?_|(refine zc ?_ ?_<;>intro h<;>first|(cases h;done)|rw[h]|skip))
  refine AK.eK (α:=Nat) (fun i=>i<=l.length/\qw q l r=qw q (l.drop i) (r.drop i)) (fun i=>l.length-i)
   (fun i=>[(17,.c (.int .i64 i)),(16,.c (.int .i64 (aI l).length)),(15,.c (.sl 5 (aI l))),(1,.c (.sl 5 (aI r))),(2,.c (.rM f W))]) (fun _=>[]) (fun _=>[]) [] 0
   ⟨bn,rfl⟩ ⟨.inl rfl,.inl rfl,.inl rfl,.inl rfl,.inl rfl,trivial⟩ trivial trivial rfl rfl rfl ?_
  rintro i ⟨I,T⟩ ih;rcases fT l i I with ⟨x,O,M⟩|P
  ·have E:=lW O;obtain⟨y,N⟩:∃y,r[i]?=some y:=⟨r[i]' sk,c9⟩
   have hq:=V x M y (aaw N);rw[dV O,dV N]at T;simp only[qw]at T;obtain⟨u,H,p,G,D⟩:=x;obtain⟨U,S,Q,K,C⟩:=y
   repeat' (first|refine nP ?_|(refine zc ?_ ?_<;>intro h<;>first|(cases h;done)|rw[h]|skip)|refine uI rfl (i) rfl (ef O) rfl ?_|refine uI rfl (i) rfl (ef N) rfl ?_|refine uC rfl hq ?_)
   ·rw[T];simp_all
   ·refine AK.again (ih (i+1) ⟨bB O,?_⟩ sk) ⟨.inl (iE sk),.inl rfl,.inl rfl,.inl rfl,.inl rfl,trivial⟩ trivial trivial rfl rfl rfl;simp_all
  ·have E:=js P
   repeat' (first|refine nP ?_|(refine zc ?_ ?_<;>intro h<;>first|(cases h;done)|rw[h]|skip))
   rw[T,Cy q A P]
 ·have J:((((aI l).length:Nat):Int) != (((aI r).length:Nat):Int))=true:=by rw[br,br];simp;omega
  rw[yx q l r A];refine qn Tryz.func30 Tryz.call30 fun β hf=>?_;exact dq
theorem gF:∀(t u:Ty),bA t<=1099511627776->ag 29 [eB t,eB u] (.bool (cP t u))
 | .mk T args,.mk U us,M=>by
  simp only[bA]at M;have Y:=gn args;have hq:=pI args us cP 29 [] (fun x O y _=>gF x y (by have:=cz O;omega)) bn;rw[yy]at hq;refine qn Tryz.func29 Tryz.call29 fun β hf=>?_
  repeat' (first|refine nP ?_|refine uC rfl hq ?_|((first|refine GK ?_|refine zu ?_ ?_)<;>intro h<;>(fail_if_success (cases h;done))<;>rw[h]))
  all_goals simp_all [cP]
termination_by t=>SizeOf.sizeOf t
decreasing_by
 have:=List.sizeOf_lt_of_mem O;simp at this ⊢;omega
end Go.Proofs
namespace Go.Proofs
open Go.cq
attribute [local irreducible] AK ai bh bt
def iW (r:CR):CV:=if r.2=0 then .gy [.agg [.sl 2 (aq r.1.1),.bool r.1.2],.int .i64 0]else .gy [.agg [.any,.any],.int .i64 r.2]
def tT (r:CR):CV := .gy [.agg [.sl 2 (aq r.1.1),.bool r.1.2],.int .i64 r.2]
theorem I1 (s:List Ty) (b:Bool):iW ((s,b),0) = .gy [.agg [.sl 2 (aq s),.bool b],.int .i64 0]:=rfl
theorem aG (s:List Ty):iW (ee s) = .gy [.agg [.sl 2 (aq s),.bool false],.int .i64 0]:=rfl
theorem aD {e:Int} (h:e≠0):iW (aP e) = .gy [.agg [.any,.any],.int .i64 e]:=by unfold iW aP;rw[if_neg h]
theorem ja (e:Int):tT (aP e) = .gy [.agg [.sl 2 [],.bool false],.int .i64 e]:=rfl
theorem abt {r:CR}:Wk (tT r) (iW r):=by
 unfold tT iW;by_cases h:r.2=0
 ·rw[if_pos h,h];exact Wk.refl _
 ·rw[if_neg h];exact zQ rfl rfl
theorem ur:∀(n:Nat) (l:List Ty),(aq l).drop n=aq (l.drop n)
 | 0,l=>rfl
 | n+1,[]=>rfl
 | n+1,x::l=>by simp only[aq,List.drop_succ_cons,ur n l]
theorem dB (T:Int) (l:List Ty):ag 98 [.int .i64 T,.sl 2 (aq l)] (eB (.mk T l)):=by
 refine qn Tryz.func98 Tryz.call98 fun β hf=>?_;exact dw
theorem cM (T:Int):ag 98 [.int .i64 T,.sl 0 []] (eB (.mk T [])) :=
 bh.wk uO (Wk.refl _) (dB T [])
theorem eI (l:List Ty) (A:l.length<=1099511627776):fG 21 [.v (.c (.sl 2 (aq l)))] [.own 2 (aq l)] []:=by
 cases l with
 | nil =>
  refine bt.tQ Tryz.func21 rfl (fun args w=>Tryz.call21 args w) (Nat.le_of_ble_eq_true rfl) [(0,.c (.sl 2 []))] [] [] [] rfl rfl fun β=>?_;have hf:=Tryz.func21
  repeat' (first|refine sK ?_|refine zr ?_ ?_|(refine zc ?_ ?_<;>intro h<;>first|(cases h;done)|rw[h]|skip)|refine AK.pJ rfl ?_ ?_|(refine uA rfl ?_ ?_<;>(try (show(_:Nat)*_<=_;dsimp only))))
  all_goals first|exact rfl|(show _<=_;decide)
 | cons x l =>
  have h1:=aQ l;simp only[aac]at A;refine bt.tQ Tryz.func21 rfl (fun args w=>Tryz.call21 args w) (Nat.le_of_ble_eq_true rfl) [(0,.c (.sl 2 (eB x::aq l)))] [] [] [] rfl rfl fun β=>?_;have hf:=Tryz.func21
  repeat' (first|refine sK ?_|refine zr ?_ ?_|(refine zc ?_ ?_<;>intro h<;>first|(cases h;done)|rw[h]|skip)|refine AK.pJ rfl ?_ ?_|(refine uA rfl ?_ ?_<;>(try (show(_:Nat)*_<=_;dsimp only))))
  all_goals first|exact rfl|(show _<=_;simp only[aac,aad];omega)
theorem bC (s l:List Ty) (Y:s.length<=20000000000:=by first|omega|(simp only[aac,aad]at *;omega)) (A:l.length<=20000000000:=by simp):ag 65 [.sl 2 (aq s),.sl 2 (aq l)] (iW (ee (l++s))):=by
 rw[aG,hJ];have h1:=eI l bn;have h2:=aQ l;have V:=aQ s;refine qn Tryz.func65 Tryz.call65 fun β hf=>?_;exact dw
theorem jn (s:List Ty) (Y:s.length<=20000000000:=by first|omega|(simp only[aac,aad]at *;omega)):ag 65 [.sl 2 (aq s),.sl 0 []] (iW (ee s)) :=
 bh.wk uO (Wk.refl _) (bC s [] Y c9)
theorem A0 (a b:List Ty) (u:qx a) (A:a.length<=20000000000):ag 50 [.sl 2 (aq a),.sl 2 (aq b)] (.bool (gI a b)):=by
 have h1:=pI a b cP 29 [] (fun x O y _=>gF x y (by have:=(u x O).2;omega)) bn;rw[yy]at h1;refine qn Tryz.func50 Tryz.call50 fun β hf=>?_;exact dw
theorem iI (a b:CR) (u:qx a.1.1) (A:a.1.1.length<=20000000000):ag 100
  [.agg [.sl 2 (aq a.1.1),.bool a.1.2],.int .i64 a.2,.agg [.sl 2 (aq b.1.1),.bool b.1.2],.int .i64 b.2] (tT (cT a b)):=by
 have h1:=A0 a.1.1 b.1.1 u A;obtain⟨⟨s,p⟩,e⟩:=a;obtain⟨⟨t,q⟩,f⟩:=b;simp only at h1 u A ⊢;unfold cT;dsimp only;by_cases P:e≠0
 ·rw[if_pos P,ja];have C:(e != 0)=true:=by simpa using P
  clear h1;refine qn Tryz.func100 Tryz.call100 fun β hf=>?_;exact dw
 rw[if_neg P];obtain rfl:e=0:=by simpa using P
 by_cases Y:f≠0
 ·rw[if_pos Y,ja];have C:(f != 0)=true:=by simpa using Y
  clear h1;refine qn Tryz.func100 Tryz.call100 fun β hf=>?_;exact dw
 rw[if_neg Y];obtain rfl:f=0:=by simpa using Y
 cases p with
 | true =>
  rw[if_pos rfl];clear h1;refine qn Tryz.func100 Tryz.call100 fun β hf=>?_;exact dw
 | false =>
 rw[if_neg cc];cases q with
 | true =>
  rw[if_pos (.inl rfl)];clear h1;refine qn Tryz.func100 Tryz.call100 fun β hf=>?_;exact dw
 | false =>
 cases G:gI s t with
 | true =>
  rw[if_pos (.inr rfl)];rw[G]at h1;refine qn Tryz.func100 Tryz.call100 fun β hf=>?_;exact dw
 | false =>
  rw[if_neg c9,ja];rw[G]at h1;refine qn Tryz.func100 Tryz.call100 fun β hf=>?_;exact dw
def fY:List Ty->List Int->Bool
 | _,[]=>true
 | [],_::_=>false
 | t::s,k::l=>(decide (k=0)||decide (bR t=k))&&fY s l
theorem bV (T:Int) (us s:List Ty) (k:Int) (l:List Int):fY (.mk T us::s) (k::l)=((decide (k=0)||decide (T=k))&&fY s l):=rfl
theorem bW (k:Int) (l:List Int):fY [] (k::l)=false:=rfl
theorem xx (l:List CV) (n:Int) (h:n<((l.length:Nat):Int)):decide (((l.length:Nat):Int)>n)=true:=aam h
theorem Fl:∀(s:List Ty) (l:List Int),s.length<l.length->fY s l=false
 | _,[],h=>by simp at h
 | [],_::_,_=>rfl
 | t::s,k::l,h=>by simp only[fY,Fl s l nu,Bool.and_false]
theorem WT {s:List Ty} {l:List Int} {t:Ty} {k:Int} {i:Nat} (h1:s[i]?=some t) (h2:l[i]?=some k):fY (s.drop i) (l.drop i)=((decide (k=0)||decide (bR t=k))&&fY (s.drop (i+1)) (l.drop (i+1))):=by
 rw[dV h1,dV h2];rfl
theorem aV (s:List Ty):fY s []=true:=by cases s<;>rfl
theorem aj (s:List Ty) (l:List Int) (G:s.length<=10000000000:=by first|omega|(simp only[aac,aad]at *;omega)) (A:l.length<=10000000000:=by decide):ag 99 [.sl 2 (aq s),.sl 1 (kQ l)] (.bool (fY s l)):=by
 have Y:=aQ s;have C:(kQ l).length=l.length:=by simp[kQ]
 by_cases K:s.length<l.length
 ·rw[Fl s l K];have I:decide ((((aq s).length:Nat):Int)<(((kQ l).length:Nat):Int))=true:=aam (by rw[Y,C];omega);refine qn Tryz.func99 Tryz.call99 fun β hf=>?_;exact dw
 have I:decide ((((aq s).length:Nat):Int)<(((kQ l).length:Nat):Int))=false:=aan (by rw[Y,C];omega);refine qn Tryz.func99 Tryz.call99 fun β hf=>?_
 repeat' (first|refine sK ?_|(refine zc ?_ ?_<;>intro h<;>first|(cases h;done)|rw[h]|skip)|((first|refine zt ?_|refine zu ?_ ?_)<;>intro h<;>(fail_if_success (cases h;done))<;>rw[h]))
 refine AK.eK (α:=Nat) (fun i=>i<=l.length/\fY s l=fY (s.drop i) (l.drop i)) (fun i=>l.length-i)
  (fun i=>[(14,.c (.int .i64 i)),(13,.c (.int .i64 (kQ l).length)),(12,.c (.sl 1 (kQ l))),(0,.c (.sl 2 (aq s)))]) (fun _=>[]) (fun _=>[]) [] 0
  ⟨bn,rfl⟩ ⟨.inl rfl,.inl rfl,.inl rfl,.inl rfl,trivial⟩ trivial trivial rfl rfl rfl ?_
 rintro i ⟨V,W⟩ ih;rcases fT l i V with ⟨k,D,S⟩|P
 ·have K:=Uz D;have h2:=bB D;obtain⟨t,M⟩:∃t,s[i]?=some t:=⟨s[i]' bn,c9⟩
  rw[WT M D]at W;obtain⟨T,us⟩:=t;by_cases u:k=0
  ·subst u;rw[aam rfl,Bool.true_or,Bool.true_and]at W
   repeat' (first|refine sK ?_|(refine zc ?_ ?_<;>intro h<;>first|(cases h;done)|rw[h]|skip)|refine uI rfl (i) rfl (ints_at D) rfl ?_|refine uI rfl (i) rfl (fH M) rfl ?_|((first|refine zt ?_|refine zu ?_ ?_)<;>intro h<;>(fail_if_success (cases h;done))<;>rw[h]))
   refine AK.again (ih (i+1) ⟨h2,W⟩ bn) ⟨.inl (iE bn),.inl rfl,.inl rfl,.inl rfl,trivial⟩ trivial trivial rfl rfl rfl
  have Q:(k != 0)=true:=by simpa using u
  by_cases E:T=k
  ·have B:(T != k)=false:=by simpa using E
   rw[aam (show bR (.mk T us)=k from E),Bool.or_true,Bool.true_and]at W
   repeat' (first|refine sK ?_|(refine zc ?_ ?_<;>intro h<;>first|(cases h;done)|rw[h]|skip)|refine uI rfl (i) rfl (ints_at D) rfl ?_|refine uI rfl (i) rfl (fH M) rfl ?_|((first|refine zt ?_|refine zu ?_ ?_)<;>intro h<;>(fail_if_success (cases h;done))<;>rw[h]))
   refine AK.again (ih (i+1) ⟨h2,W⟩ bn) ⟨.inl (iE bn),.inl rfl,.inl rfl,.inl rfl,trivial⟩ trivial trivial rfl rfl rfl
  ·have B:(T != k)=true:=by simpa using E
   rw[aan (show ¬bR (.mk T us)=k from E),aan u,Bool.or_false,Bool.false_and]at W;rw[W];clear ih;have O:=ints_at D;have N:=fH M;exact dw
 ·have K:=Q5 P;have U:fY s l=true:=by rw[W,P,List.drop_length,aV]
  rw[U];clear ih;exact dw
end Go.Proofs
namespace Go.cq
theorem vQ (w a:Nat):(BitVec.ofInt w (a:Int)).toNat=a%2^w:=by
 rw[BitVec.ofInt_natCast,BitVec.toNat_ofNat]
theorem N1 {a:Nat} (h:a<9223372036854775808) (k:Nat) (D:k<63):IntKind.i64.wrap (((BitVec.ofInt 64 (a:Int))&&&(BitVec.ofInt 64 ((2^k-1:Nat):Int))).toNat)=((a%2^k:Nat):Int):=by
 have h2:(2:Nat)^k<=2^62:=Nat.pow_le_pow_right bn bn;have V:0<(2:Nat)^k:=Nat.pow_pos bn;rw[BitVec.toNat_and,vQ,vQ,Nat.mod_eq_of_lt (show a<2^64 by omega),Nat.mod_eq_of_lt (show 2^k-1<2^64 by omega),Nat.and_two_pow_sub_one_eq_mod];have Y:a%2^k<2^k:=Nat.mod_lt _ V;exact gW bn bn
theorem I2 {a:Nat} (h:a<9223372036854775808):IntKind.i64.wrap (((BitVec.ofInt 64 (a:Int))&&&(BitVec.ofInt 64 63)).toNat)=((a%64:Nat):Int):=N1 h 6 (by omega)
theorem Q6 {a:Nat} (h:a<9223372036854775808):IntKind.i64.wrap (((BitVec.ofInt 64 (a:Int))&&&(BitVec.ofInt 64 127)).toNat)=((a%128:Nat):Int):=N1 h 7 (by omega)
theorem LG {a:Nat} (h:a<256):IntKind.u8.wrap (a:Int)=a:=by
 have:=nB (a:Int);rw[iO a h]at this;exact this.symm
theorem WU:∀c:Fin 128,IntKind.u8.wrap (((BitVec.ofInt 8 ((c.val:Nat):Int))|||(BitVec.ofInt 8 128)).toNat)=((c.val+128:Nat):Int):=by decide +kernel
theorem YP {c:Nat} (h:c<128):IntKind.u8.wrap (((BitVec.ofInt 8 (c:Int))|||(BitVec.ofInt 8 128)).toNat)=((c+128:Nat):Int):=WU ⟨c,h⟩
theorem UA:∀x:Fin 64,IntKind.u8.wrap (((BitVec.ofInt 8 64)|||(BitVec.ofInt 8 ((x.val:Nat):Int))).toNat)=((64+x.val:Nat):Int):=by decide +kernel
theorem or_none:∀x:Fin 64,IntKind.u8.wrap (((BitVec.ofInt 8 0)|||(BitVec.ofInt 8 ((x.val:Nat):Int))).toNat)=((0+x.val:Nat):Int):=by decide +kernel
theorem Px:∀c:Fin 256,(IntKind.i64.wrap (((BitVec.ofInt 64 ((c.val:Nat):Int))&&&(BitVec.ofInt 64 64)).toNat) != 0)=decide (c.val/64%2=1):=by decide +kernel
theorem Q7 {c:Nat} (h:c<256):(IntKind.i64.wrap (((BitVec.ofInt 64 (c:Int))&&&(BitVec.ofInt 64 64)).toNat) != 0)=decide (c/64%2=1):=Px ⟨c,h⟩
theorem Q8 {n x Y:Nat} (W:n<2^Y) (O:x<128) (G:Y<=55):IntKind.i64.wrap (((BitVec.ofInt 64 (n:Int))|||(BitVec.ofInt 64 (IntKind.i64.wrap ((x:Int)*2^(min Y 64))))).toNat)=((n+x*2^Y:Nat):Int):=by
 have h2:(2:Nat)^Y<=2^55:=Nat.pow_le_pow_right bn G;have V:x*2^Y<=127*2^55:=Nat.mul_le_mul bn h2;have e:(x:Int)*2^(min Y 64)=((x*2^Y:Nat):Int):=by
  rw[Nat.min_eq_left bn];simp
 rw[e,gW (n:=((x*2^Y:Nat):Int)) bn bn,BitVec.toNat_or,vQ,vQ,Nat.mod_eq_of_lt (show n<2^64 by omega),Nat.mod_eq_of_lt (show x*2^Y<2^64 by omega)];rw[Nat.or_comm,<- Nat.shiftLeft_eq,<- Nat.shiftLeft_add_eq_or_of_lt W x,Nat.shiftLeft_eq,Nat.add_comm];exact gW bn bn
theorem BZ (a k:Nat):(a:Int).fdiv (2^k)=((a/2^k:Nat):Int):=by
 rw[Int.fdiv_eq_ediv_of_nonneg _ (by exact Int.le_of_lt (Int.pow_pos bn))];simp
end Go.cq
