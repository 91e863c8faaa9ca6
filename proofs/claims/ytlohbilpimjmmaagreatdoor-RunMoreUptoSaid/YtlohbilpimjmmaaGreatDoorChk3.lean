/- What shape, sum, mints and fits of package check answer. What fits of package check answers. -/
import Derived.Test.YtlohbilpimjmmaaGreatDoorBits
set_option maxHeartbeats 0
set_option linter.unusedVariables false
set_option linter.unusedSimpArgs false
set_option maxRecDepth 100000
namespace Go.Proofs
open Go.cq
attribute [local irreducible] AK ai bh bt aZ
theorem GO (p:Int):ag 60 [.int .i64 p] (.str (fN p)):=by
 refine qn Tryz.func60 Tryz.call60 fun β hf=>?_
 repeat' (first|refine sK ?_|(refine zc ?_ ?_<;>intro h<;>first|(cases h;done)|rw[h]|skip))
 all_goals
  clear hf;refine Wk.of_eq (congrArg CV.str ?_);unfold fN;simp_all
theorem four (a:Int):a=3\/a=4\/a=5\/((a==3)=false/\(a==4)=false/\(a==5)=false):=by grind
theorem LL (p a b:Int) (A:p=69\/p=70\/p=71\/p=72):ag 101 [.int .i64 p,.int .i64 a,.int .i64 b] (.int .i64 (nk p a b)):=by
 rcases A with rfl|rfl|rfl|rfl<;>rcases four a with rfl|rfl|rfl|⟨u,H,Y⟩<;>rcases four b with rfl|rfl|rfl|⟨W,P,V⟩
 all_goals
  refine qn Tryz.func101 Tryz.call101 fun β hf=>?_
  repeat' (first|refine sK ?_|(refine zc ?_ ?_<;>intro h<;>first|(cases h;done)|rw[h]|skip)|((first|refine zt ?_|refine zu ?_ ?_)<;>intro h<;>(fail_if_success (cases h;done))<;>rw[h]))
  all_goals
   clear hf;refine Wk.of_eq (congrArg (CV.int .i64) ?_);unfold nk;simp_all
theorem EG (l:List Nd) (p:Nd->Bool) (f:FuncId) (W:List CV) (A:∀x∈l,ag f (aX x::W) (.bool (p x))) (U:l.length<=1099511627776) :
  ag 106 [.sl 5 (aI l),.rM f W] (.int .i64 (idxOf p l)):=by
 refine qn Tryz.func106 Tryz.call106 fun β hf=>?_;refine AK.LM Tryz.hX Tryz.mixed 300 rfl ?_;refine AK.eK (α:=Nat) (fun i=>i<=l.length/\∀(j:Nat) x,j<i->l[j]?=some x->p x=false) (fun i=>l.length-i)
  (fun i=>[(8,.c (.int .i64 i)),(7,.c (.int .i64 (aI l).length)),(0,.c (.sl 5 (aI l))),(1,.c (.rM f W))]) (fun _=>[]) (fun _=>[]) [] 0
  ⟨bn,by intro j x h;omega⟩ ⟨.inl rfl,.inl rfl,.inl rfl,.inl rfl,trivial⟩ trivial trivial rfl rfl rfl ?_
 rintro i ⟨I,u⟩ ih;rcases fT l i I with ⟨x,O,M⟩|P
 ·have E:=lW O;have hq:=A x M;have h2:=bB O;cases G:p x with
  | true =>
   rw[G]at hq;rw[uv p l i x O G u];obtain⟨D,T,Q,S,J⟩:=x;clear ih;have C:=ef O;exact dw
  | false =>
   rw[G]at hq
   have K:=ih (i+1) ⟨bn,fun j y B Y=>by
    by_cases V:j=i
    ·subst V;rw[O]at Y;simp at Y;subst Y;exact G
    ·exact u j y bn Y⟩ bn
   obtain⟨D,T,Q,S,J⟩:=x
   repeat' (first|refine sK ?_|(refine zc ?_ ?_<;>intro h<;>first|(cases h;done)|rw[h]|skip)|refine uI rfl (i) rfl (ef O) rfl ?_|refine uC rfl hq ?_)
   refine AK.again K ⟨.inl ?_,.inl rfl,.inl rfl,.inl rfl,trivial⟩ trivial trivial rfl rfl rfl;rw[gW bn bn];rfl
 ·have E:=js P
  have H:idxOf p l = -1:=xB p l (fun j y N=>by
   have:=bB N
   exact u j y bn N)
  rw[H];clear ih;exact dw
theorem zS (l:List Nd) (p:Nd->Bool) (f:FuncId) (W:List CV) (A:∀x∈l,ag f (aX x::W) (.bool (p x))) (Y:l.length<=1099511627776) :
  ag 77 [.sl 5 (aI l),.rM f W] (.bool (l.any p)):=by
 refine qn Tryz.func77 Tryz.call77 fun β hf=>?_
 repeat' (first|refine sK ?_|refine uC rfl (EG l p f W A Y) ?_)
 all_goals exact Wk.of_eq (congrArg CV.bool (zT p l))
theorem CG:∀(l:List Nd),jt l=l.any I6
 | []=>rfl
 | x::l=>by simp only[jt,List.any_cons,CG l]
theorem uw (l:List Nd) (V:aU l<=1099511627776):ag 51 [.sl 5 (aI l)] (.bool (jt l)):=by
 have O:∀x∈l,ag 78 [aX x] (.bool (I6 x)):=by
  rintro⟨k,n,p,s,xs⟩ hx;have Y:=er hx;simp only[b8]at Y;have U:=uw xs bn;unfold I6;by_cases D:k=2
  ·subst D;by_cases A:p=84
   ·subst A;rw[aam ⟨rfl,rfl⟩];refine qn Tryz.func78 Tryz.call78 fun β hf=>?_;exact dw
   ·rw[aan (fun h=>A h.2)];have C:(p==84)=false:=by simpa using A
    refine qn Tryz.func78 Tryz.call78 fun β hf=>?_;exact dw
  ·rw[aan (fun h=>D h.1)];have C:(k==2)=false:=by simpa using D
   refine qn Tryz.func78 Tryz.call78 fun β hf=>?_;exact dw
 have W:=fP l;have h1:=zS l I6 78 [] O bn;rw[<- CG]at h1;refine qn Tryz.func51 Tryz.call51 fun β hf=>?_;exact dw
termination_by SizeOf.sizeOf l
decreasing_by
 have:=List.sizeOf_lt_of_mem hx;simp at this ⊢;omega
end Go.Proofs
namespace Go.Proofs
open Go.cq
attribute [local irreducible] AK ai bh bt aZ
theorem LN {p:Int} {w:UInt8} (h:w∈fN p):w=110\/w=99\/w=116\/w=118:=by
 unfold fN at h
 repeat' (split at h)
 all_goals simp at h
 all_goals (try (rcases h with h|h|h))
 all_goals (try (rcases h with h|h))
 all_goals (try subst h)
 all_goals simp
theorem Rg (l:List Nd) (acc:List Ty):jc [] l acc=some acc:=by unfold jc;rfl
theorem WW (q:List UInt8) (kind N P:Int) (S:List UInt8) (xs l:List Nd) (acc:List Ty):jc (110::q) (.mk kind N P S xs::l) acc=if kind=0/\0<=N/\N<=40 then jc q l acc else none:=by
 conv=>lhs;unfold jc
 rw[if_pos rfl]
theorem WX (q:List UInt8) (kind N P:Int) (S:List UInt8) (xs l:List Nd) (acc:List Ty):jc (99::q) (.mk kind N P S xs::l) acc=if kind=3 then jc q l acc else none:=by
 conv=>lhs;unfold jc
 rw[if_neg cc,if_pos rfl]
theorem WY (q:List UInt8) (kind N P:Int) (S:List UInt8) (xs l:List Nd) (acc:List Ty):jc (116::q) (.mk kind N P S xs::l) acc=if(aZ (.mk kind N P S xs)).2=0 then jc q l (acc++[(aZ (.mk kind N P S xs)).1])else none:=by
 conv=>lhs;unfold jc
 rw[if_neg cc,if_neg cc,if_pos rfl]
theorem WZ (q:List UInt8) (kind N P:Int) (S:List UInt8) (xs l:List Nd) (acc:List Ty):jc (118::q) (.mk kind N P S xs::l) acc=jc q l acc:=by
 conv=>lhs;unfold jc
 rw[if_neg cc,if_neg cc,if_neg cc]
def UG:Option (List Ty)->CV
 | some l => .gy [.sl 2 (aq l),.bool true]
 | none => .gy [.sl 2 [],.bool false]
theorem I9 (kind N P:Int) (S:List UInt8) (args:List Nd) (hn:aU args<=8589934593):ag 47 [aX (.mk kind N P S args)] (UG (bN P args)):=by
 have h1:=GO P;have PD:=fP args;have I:=br args;unfold bN;by_cases J:P<40
 ·rw[if_pos (.inl J)];have e1:decide (P<40)=true:=aam J;refine qn Tryz.func47 Tryz.call47 fun β hf=>?_;exact dw
 have e1:decide (P<40)=false:=aan J;by_cases c2:args.length≠(fN P).length
 ·rw[if_pos (.inr c2)];have H:((((aI args).length:Nat):Int) != (((fN P).length:Nat):Int))=true:=by rw[I];simp;omega
  refine qn Tryz.func47 Tryz.call47 fun β hf=>?_;exact dw
 rw[if_neg bn];have W:args.length=(fN P).length:=by omega
 have H:((((aI args).length:Nat):Int) != (((fN P).length:Nat):Int))=false:=by rw[I];simp;omega
 have V:=fun w h => @LN P w h;generalize fN P=q at h1 W H V ⊢;refine qn Tryz.func47 Tryz.call47 fun β hf=>?_
 repeat' (first|refine sK ?_|(refine zc ?_ ?_<;>intro h<;>first|(cases h;done)|rw[h]|skip)|refine uC rfl h1 ?_|(refine uA rfl ?_ ?_<;>(try (show(_:Nat)*_<=_;dsimp only)))|((first|refine zt ?_|refine zu ?_ ?_)<;>intro h<;>(fail_if_success (cases h;done))<;>rw[h]))
 refine AK.fW [] [(6000,(0,none))] (env':=[(27,.c (.int .i64 (0:Nat))),(26,.c (.int .i64 (aI args).length)),(25,.c (.sl 5 (aI args))),(4,.c (.str q)),(5,.own (.tok 6000 0) 2 [])])
  (bs':=[]) (ts':=[(6000,0)]) (us':=[6000])
  ⟨⟨_,rfl,.inl rfl⟩,⟨_,rfl,.inl rfl⟩,⟨_,rfl,.inl rfl⟩,⟨_,rfl,.inl rfl⟩,⟨_,rfl,⟨_,rfl,.inl ⟨rfl,_,rfl,.inr rfl⟩⟩⟩,trivial⟩ trivial rfl ?_
 refine AK.eK (α:=Nat×List Ty) (fun z=>z.1<=args.length/\z.2.length<=z.1/\jc q args []=jc (q.drop z.1) (args.drop z.1) z.2) (fun z=>args.length-z.1)
  (fun z=>[(27,.c (.int .i64 z.1)),(26,.c (.int .i64 (aI args).length)),(25,.c (.sl 5 (aI args))),(4,.c (.str q)),(5,.own (.tok 6000 0) 2 (aq z.2))]) (fun _=>[]) (fun _=>[(6000,0)]) [6000] (0,[])
  ⟨bn,c9,rfl⟩ ⟨.inl rfl,.inl rfl,.inl rfl,.inl rfl,.inl rfl,trivial⟩ trivial ⟨rfl,trivial⟩ rfl rfl rfl ?_
 rintro⟨i,acc⟩ ⟨G,Cw,T⟩ ih;simp only at G Cw T;rcases fT args i G with ⟨x,O,hm⟩|E
 ·have hc:=lW O;have h2:=bB O;obtain⟨w,Y⟩:∃w,q[i]?=some w:=⟨q[i]' bn,c9⟩
  have I4:=V w (aaw Y);have hxs:=er hm;have A:=ko x bn;rw[dV O,dV Y]at T;obtain⟨Q,D,k3,k4,k5⟩:=x;rcases I4 with rfl|rfl|rfl|rfl
  ·have K:((((110:UInt8).toNat:Nat):Int)==110)=true:=rfl;rw[WW]at T;by_cases g1:Q=0;rotate_left
   ·rw[if_neg (fun h=>g1 h.1)]at T;rw[T];have M:(Q != 0)=true:=by simpa using g1
    clear ih T
    repeat' (first|refine sK ?_|(refine zc ?_ ?_<;>intro h<;>first|(cases h;done)|rw[h]|skip)|refine uI rfl (i) rfl (ef O) rfl ?_|refine ai.lN Tryz.hX kn rfl rfl rfl rfl rfl rfl rfl (m:=i) rfl Y ?_|(refine uA rfl ?_ ?_<;>(try (show(_:Nat)*_<=_;dsimp only)))|((first|refine zt ?_|refine zu ?_ ?_)<;>intro h<;>(fail_if_success (cases h;done))<;>rw[h]))
    all_goals exact vT
   subst g1;by_cases C:D<0
   ·rw[if_neg (fun h=>by omega)]at T;rw[T];have M:decide (D<0)=true:=aam C;clear ih T
    repeat' (first|refine sK ?_|(refine zc ?_ ?_<;>intro h<;>first|(cases h;done)|rw[h]|skip)|refine uI rfl (i) rfl (ef O) rfl ?_|refine ai.lN Tryz.hX kn rfl rfl rfl rfl rfl rfl rfl (m:=i) rfl Y ?_|(refine uA rfl ?_ ?_<;>(try (show(_:Nat)*_<=_;dsimp only)))|((first|refine zt ?_|refine zu ?_ ?_)<;>intro h<;>(fail_if_success (cases h;done))<;>rw[h]))
    all_goals exact vT
   have g4:decide (D<0)=false:=aan C;by_cases u:D>40
   ·rw[if_neg (fun h=>by omega)]at T;rw[T];have M:decide (D>40)=true:=aam u;clear ih T
    repeat' (first|refine sK ?_|(refine zc ?_ ?_<;>intro h<;>first|(cases h;done)|rw[h]|skip)|refine uI rfl (i) rfl (ef O) rfl ?_|refine ai.lN Tryz.hX kn rfl rfl rfl rfl rfl rfl rfl (m:=i) rfl Y ?_|(refine uA rfl ?_ ?_<;>(try (show(_:Nat)*_<=_;dsimp only)))|((first|refine zt ?_|refine zu ?_ ?_)<;>intro h<;>(fail_if_success (cases h;done))<;>rw[h]))
    all_goals exact vT
   have g6:decide (D>40)=false:=aan u;rw[if_pos ⟨rfl,bn,bn⟩]at T
   repeat' (first|refine sK ?_|(refine zc ?_ ?_<;>intro h<;>first|(cases h;done)|rw[h]|skip)|refine uI rfl (i) rfl (ef O) rfl ?_|refine ai.lN Tryz.hX kn rfl rfl rfl rfl rfl rfl rfl (m:=i) rfl Y ?_|(refine uA rfl ?_ ?_<;>(try (show(_:Nat)*_<=_;dsimp only)))|((first|refine zt ?_|refine zu ?_ ?_)<;>intro h<;>(fail_if_success (cases h;done))<;>rw[h]))
   refine AK.again (ih (i+1,acc) ⟨h2,Td,T⟩ fc) ⟨.inl (iE (i:=i) bn),.inl rfl,.inl rfl,.inl rfl,.inl rfl,trivial⟩ trivial ⟨rfl,trivial⟩ rfl rfl rfl
  ·have K:((((99:UInt8).toNat:Nat):Int)==110)=false:=rfl;have p:((((99:UInt8).toNat:Nat):Int)==99)=true:=rfl;rw[WX]at T;by_cases g1:Q=3;rotate_left
   ·rw[if_neg g1]at T;rw[T];have M:(Q != 3)=true:=by simpa using g1
    clear ih T
    repeat' (first|refine sK ?_|(refine zc ?_ ?_<;>intro h<;>first|(cases h;done)|rw[h]|skip)|refine uI rfl (i) rfl (ef O) rfl ?_|refine ai.lN Tryz.hX kn rfl rfl rfl rfl rfl rfl rfl (m:=i) rfl Y ?_|(refine uA rfl ?_ ?_<;>(try (show(_:Nat)*_<=_;dsimp only)))|((first|refine zt ?_|refine zu ?_ ?_)<;>intro h<;>(fail_if_success (cases h;done))<;>rw[h]))
    all_goals exact vT
   subst g1;rw[if_pos rfl]at T
   repeat' (first|refine sK ?_|(refine zc ?_ ?_<;>intro h<;>first|(cases h;done)|rw[h]|skip)|refine uI rfl (i) rfl (ef O) rfl ?_|refine ai.lN Tryz.hX kn rfl rfl rfl rfl rfl rfl rfl (m:=i) rfl Y ?_|(refine uA rfl ?_ ?_<;>(try (show(_:Nat)*_<=_;dsimp only)))|((first|refine zt ?_|refine zu ?_ ?_)<;>intro h<;>(fail_if_success (cases h;done))<;>rw[h]))
   refine AK.again (ih (i+1,acc) ⟨h2,Td,T⟩ fc) ⟨.inl (iE (i:=i) bn),.inl rfl,.inl rfl,.inl rfl,.inl rfl,trivial⟩ trivial ⟨rfl,trivial⟩ rfl rfl rfl
  ·have K:((((116:UInt8).toNat:Nat):Int)==110)=false:=rfl;have p:((((116:UInt8).toNat:Nat):Int)==99)=false:=rfl;have f3:((((116:UInt8).toNat:Nat):Int)==116)=true:=rfl;rw[WY]at T;rcases hr:aZ (.mk Q D k3 k4 k5)with ⟨⟨U,us⟩,e⟩
   rw[hr]at A T;simp only at A T;by_cases g1:e=0;rotate_left
   ·rw[if_neg g1]at T;rw[T];have M:(e != 0)=true:=by simpa using g1
    clear ih T
    repeat' (first|refine sK ?_|(refine zc ?_ ?_<;>intro h<;>first|(cases h;done)|rw[h]|skip)|refine uI rfl (i) rfl (ef O) rfl ?_|refine ai.lN Tryz.hX kn rfl rfl rfl rfl rfl rfl rfl (m:=i) rfl Y ?_|refine uC rfl A ?_|(refine uA rfl ?_ ?_<;>(try (show(_:Nat)*_<=_;dsimp only)))|((first|refine zt ?_|refine zu ?_ ?_)<;>intro h<;>(fail_if_success (cases h;done))<;>rw[h]))
    all_goals exact vT
   subst g1;rw[if_pos rfl]at T
   repeat' (first|refine sK ?_|(refine zc ?_ ?_<;>intro h<;>first|(cases h;done)|rw[h]|skip)|refine uI rfl (i) rfl (ef O) rfl ?_|refine ai.lN Tryz.hX kn rfl rfl rfl rfl rfl rfl rfl (m:=i) rfl Y ?_|refine uC rfl A ?_|(refine uA rfl ?_ ?_<;>(try (show(_:Nat)*_<=_;dsimp only)))|((first|refine zt ?_|refine zu ?_ ?_)<;>intro h<;>(fail_if_success (cases h;done))<;>rw[h]))
   ·have h1:=aQ acc;simp only[aac,aad];omega
   ·have B:aq acc++[eB (.mk U us)]=aq (acc++[Ty.mk U us]):=(hJ acc [_]).symm;refine AK.fW [] [(6000,(0,some 6000))] (env':=[(27,.c (.int .i64 ((i+1:Nat):Int))),(26,.c (.int .i64 (aI args).length)),(25,.c (.sl 5 (aI args))),(4,.c (.str q)),(5,.own (.tok 6000 0) 2 (aq (acc++[Ty.mk U us])))])
     (bs':=[]) (ts':=[(6000,0)]) (us':=[6000])
     ⟨⟨_,rfl,.inl (kP (i:=i) bn)⟩,⟨_,rfl,.inl rfl⟩,⟨_,rfl,.inl rfl⟩,⟨_,rfl,.inl rfl⟩,⟨_,rfl,⟨_,rfl,.inr ⟨_,_,rfl,rfl,congrArg (AV.own (.tok 6000 1) 2) B⟩⟩⟩,trivial⟩ trivial rfl ?_
    exact ih (i+1,acc++[Ty.mk U us]) ⟨h2,lD,T⟩ fc
  ·have K:((((118:UInt8).toNat:Nat):Int)==110)=false:=rfl;have p:((((118:UInt8).toNat:Nat):Int)==99)=false:=rfl;have f3:((((118:UInt8).toNat:Nat):Int)==116)=false:=rfl;rw[WZ]at T
   repeat' (first|refine sK ?_|(refine zc ?_ ?_<;>intro h<;>first|(cases h;done)|rw[h]|skip)|refine uI rfl (i) rfl (ef O) rfl ?_|refine ai.lN Tryz.hX kn rfl rfl rfl rfl rfl rfl rfl (m:=i) rfl Y ?_|(refine uA rfl ?_ ?_<;>(try (show(_:Nat)*_<=_;dsimp only)))|((first|refine zt ?_|refine zu ?_ ?_)<;>intro h<;>(fail_if_success (cases h;done))<;>rw[h]))
   refine AK.again (ih (i+1,acc) ⟨h2,Td,T⟩ fc) ⟨.inl (iE (i:=i) bn),.inl rfl,.inl rfl,.inl rfl,.inl rfl,trivial⟩ trivial ⟨rfl,trivial⟩ rfl rfl rfl
 ·have hc:=js E;have h0:jc q args []=some acc:=by
   rw[T,E,List.drop_length,W,List.drop_length];exact Rg _ _
  rw[h0];clear ih T;exact dw
end Go.Proofs
