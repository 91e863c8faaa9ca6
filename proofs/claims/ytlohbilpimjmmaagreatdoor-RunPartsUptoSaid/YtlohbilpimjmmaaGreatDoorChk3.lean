/- What shape, sum, mints and fits of package check answer. What fits of package check answers. -/
import Derived.Test.YtlohbilpimjmmaaGreatDoorBits
set_option maxHeartbeats 0
set_option linter.unusedVariables false
set_option linter.unusedSimpArgs false
set_option maxRecDepth 100000
namespace Go.Proofs
open Go.cu
attribute [local irreducible] AK ai bw bz aZ
theorem GC (p:Int):ah 60 [.int .i64 p] (.str (fS p)):=by
 refine qn Tryz.func60 Tryz.call60 fun β hf=>?_
 repeat' (first|refine qo ?_|(refine zc ?_ ?_<;>intro h<;>first|(cases h;done)|rw[h]|skip))
 all_goals
  clear hf;refine Wk.of_eq (congrArg CV.str ?_);unfold fS;simp_all
theorem four (a:Int):a=3\/a=4\/a=5\/((a==3)=false/\(a==4)=false/\(a==5)=false):=by grind
theorem Lv (p a b:Int) (T:p=69\/p=70\/p=71\/p=72):ah 101 [.int .i64 p,.int .i64 a,.int .i64 b] (.int .i64 (mZ p a b)):=by
 rcases T with rfl|rfl|rfl|rfl<;>rcases four a with rfl|rfl|rfl|⟨u,C,G⟩<;>rcases four b with rfl|rfl|rfl|⟨H,Y,U⟩
 all_goals
  refine qn Tryz.func101 Tryz.call101 fun β hf=>?_
  repeat' (first|refine qo ?_|(refine zc ?_ ?_<;>intro h<;>first|(cases h;done)|rw[h]|skip)|((first|refine zt ?_|refine zu ?_ ?_)<;>intro h<;>(fail_if_success (cases h;done))<;>rw[h]))
  all_goals
   clear hf;refine Wk.of_eq (congrArg (CV.int .i64) ?_);unfold mZ;simp_all
theorem EA (l:List Nd) (p:Nd->Bool) (f:FuncId) (W:List CV) (S:∀x∈l,ah f (aW x::W) (.bool (p x))) (T:l.length<=1099511627776) :
  ah 106 [.sl 5 (aH l),.rK f W] (.int .i64 (idxOf p l)):=by
 refine qn Tryz.func106 Tryz.call106 fun β hf=>?_;refine AK.Lw Tryz.hX Tryz.mixed 300 rfl ?_;refine AK.eM (α:=Nat) (fun i=>i<=l.length/\∀(j:Nat) x,j<i->l[j]?=some x->p x=false) (fun i=>l.length-i)
  (fun i=>[(8,.c (.int .i64 i)),(7,.c (.int .i64 (aH l).length)),(0,.c (.sl 5 (aH l))),(1,.c (.rK f W))]) (fun _=>[]) (fun _=>[]) [] 0
  ⟨bn,by intro j x h;omega⟩ ⟨.inl rfl,.inl rfl,.inl rfl,.inl rfl,trivial⟩ trivial trivial rfl rfl rfl ?_
 rintro i ⟨I,u⟩ ih;rcases gf l i I with ⟨x,O,Q⟩|P
 ·have E:=lq O;have hq:=S x Q;have h2:=bD O;cases V:p x with
  | true =>
   rw[V]at hq;rw[uh p l i x O V u];obtain⟨N,D,M,K,J⟩:=x;clear ih;have G:=dX O;exact dw
  | false =>
   rw[V]at hq
   have H:=ih (i+1) ⟨bn,fun j y C Y=>by
    by_cases U:j=i
    ·subst U;rw[O]at Y;simp at Y;subst Y;exact V
    ·exact u j y bn Y⟩ bn
   obtain⟨N,D,M,K,J⟩:=x
   repeat' (first|refine qo ?_|(refine zc ?_ ?_<;>intro h<;>first|(cases h;done)|rw[h]|skip)|refine uI rfl (i) rfl (dX O) rfl ?_|refine uC rfl hq ?_)
   refine AK.again H ⟨.inl ?_,.inl rfl,.inl rfl,.inl rfl,trivial⟩ trivial trivial rfl rfl rfl;rw[gZ bn bn];rfl
 ·have E:=iX P
  have B:idxOf p l = -1:=xl p l (fun j y A=>by
   have:=bD A
   exact u j y bn A)
  rw[B];clear ih;exact dw
theorem zJ (l:List Nd) (p:Nd->Bool) (f:FuncId) (W:List CV) (T:∀x∈l,ah f (aW x::W) (.bool (p x))) (Y:l.length<=1099511627776) :
  ah 77 [.sl 5 (aH l),.rK f W] (.bool (l.any p)):=by
 refine qn Tryz.func77 Tryz.call77 fun β hf=>?_
 repeat' (first|refine qo ?_|refine uC rfl (EA l p f W T Y) ?_)
 all_goals exact Wk.of_eq (congrArg CV.bool (zK p l))
theorem CA:∀(l:List Nd),ju l=l.any IL
 | []=>rfl
 | x::l=>by simp only[ju,List.any_cons,CA l]
theorem uj (l:List Nd) (C:aQ l<=1099511627776):ah 51 [.sl 5 (aH l)] (.bool (ju l)):=by
 have M:∀x∈l,ah 78 [aW x] (.bool (IL x)):=by
  rintro⟨k,n,p,s,xs⟩ hx;have J:=ee hx;simp only[bN]at J;have W:=uj xs bn;unfold IL;by_cases D:k=2
  ·subst D;by_cases T:p=84
   ·subst T;rw[aan ⟨rfl,rfl⟩];refine qn Tryz.func78 Tryz.call78 fun β hf=>?_;exact dw
   ·rw[aaw (fun h=>T h.2)];have A:(p==84)=false:=by simpa using T
    refine qn Tryz.func78 Tryz.call78 fun β hf=>?_;exact dw
  ·rw[aaw (fun h=>D h.1)];have A:(k==2)=false:=by simpa using D
   refine qn Tryz.func78 Tryz.call78 fun β hf=>?_;exact dw
 have Y:=eL l;have h1:=zJ l IL 78 [] M bn;rw[<- CA]at h1;refine qn Tryz.func51 Tryz.call51 fun β hf=>?_;exact dw
termination_by SizeOf.sizeOf l
decreasing_by
 have:=List.sizeOf_lt_of_mem hx;simp at this ⊢;omega
end Go.Proofs
namespace Go.Proofs
open Go.cu
attribute [local irreducible] AK ai bw bz aZ
theorem Lx {p:Int} {w:UInt8} (h:w∈fS p):w=110\/w=99\/w=116\/w=118:=by
 unfold fS at h
 repeat' (split at h)
 all_goals simp at h
 all_goals (try (rcases h with h|h|h))
 all_goals (try (rcases h with h|h))
 all_goals (try subst h)
 all_goals simp
theorem Q7 (l:List Nd) (acc:List Ty):ja [] l acc=some acc:=by unfold ja;rfl
theorem WD (Y:List UInt8) (kind N P:Int) (S:List UInt8) (xs l:List Nd) (acc:List Ty):ja (110::Y) (.mk kind N P S xs::l) acc=if kind=0/\0<=N/\N<=40 then ja Y l acc else none:=by
 conv=>lhs;unfold ja
 rw[if_pos rfl]
theorem WE (Y:List UInt8) (kind N P:Int) (S:List UInt8) (xs l:List Nd) (acc:List Ty):ja (99::Y) (.mk kind N P S xs::l) acc=if kind=3 then ja Y l acc else none:=by
 conv=>lhs;unfold ja
 rw[if_neg cc,if_pos rfl]
theorem WG (Y:List UInt8) (kind N P:Int) (S:List UInt8) (xs l:List Nd) (acc:List Ty):ja (116::Y) (.mk kind N P S xs::l) acc=if(aZ (.mk kind N P S xs)).2=0 then ja Y l (acc++[(aZ (.mk kind N P S xs)).1])else none:=by
 conv=>lhs;unfold ja
 rw[if_neg cc,if_neg cc,if_pos rfl]
theorem WH (Y:List UInt8) (kind N P:Int) (S:List UInt8) (xs l:List Nd) (acc:List Ty):ja (118::Y) (.mk kind N P S xs::l) acc=ja Y l acc:=by
 conv=>lhs;unfold ja
 rw[if_neg cc,if_neg cc,if_neg cc]
def Ul:Option (List Ty)->CV
 | some l => .gB [.sl 2 (aE l),.bool true]
 | none => .gB [.sl 2 [],.bool false]
theorem IP (kind N P:Int) (S:List UInt8) (args:List Nd) (hn:aQ args<=8589934593):ah 47 [aW (.mk kind N P S args)] (Ul (bQ P args)):=by
 have h1:=GC P;have Pm:=eL args;have I:=bq args;unfold bQ;by_cases M:P<40
 ·rw[if_pos (.inl M)];have e1:decide (P<40)=true:=aan M;refine qn Tryz.func47 Tryz.call47 fun β hf=>?_;exact dw
 have e1:decide (P<40)=false:=aaw M;by_cases c2:args.length≠(fS P).length
 ·rw[if_pos (.inr c2)];have E:((((aH args).length:Nat):Int) != (((fS P).length:Nat):Int))=true:=by rw[I];simp;omega
  refine qn Tryz.func47 Tryz.call47 fun β hf=>?_;exact dw
 rw[if_neg bn];have Y:args.length=(fS P).length:=by omega
 have E:((((aH args).length:Nat):Int) != (((fS P).length:Nat):Int))=false:=by rw[I];simp;omega
 have W:=fun w h => @Lx P w h;generalize fS P=V at h1 Y E W ⊢;refine qn Tryz.func47 Tryz.call47 fun β hf=>?_
 repeat' (first|refine qo ?_|(refine zc ?_ ?_<;>intro h<;>first|(cases h;done)|rw[h]|skip)|refine uC rfl h1 ?_|(refine uA rfl ?_ ?_<;>(try (show(_:Nat)*_<=_;dsimp only)))|((first|refine zt ?_|refine zu ?_ ?_)<;>intro h<;>(fail_if_success (cases h;done))<;>rw[h]))
 refine AK.fY [] [(6000,(0,none))] (env':=[(27,.c (.int .i64 (0:Nat))),(26,.c (.int .i64 (aH args).length)),(25,.c (.sl 5 (aH args))),(4,.c (.str V)),(5,.own (.tok 6000 0) 2 [])])
  (bs':=[]) (ts':=[(6000,0)]) (us':=[6000])
  ⟨⟨_,rfl,.inl rfl⟩,⟨_,rfl,.inl rfl⟩,⟨_,rfl,.inl rfl⟩,⟨_,rfl,.inl rfl⟩,⟨_,rfl,⟨_,rfl,.inl ⟨rfl,_,rfl,.inr rfl⟩⟩⟩,trivial⟩ trivial rfl ?_
 refine AK.eM (α:=Nat×List Ty) (fun z=>z.1<=args.length/\z.2.length<=z.1/\ja V args []=ja (V.drop z.1) (args.drop z.1) z.2) (fun z=>args.length-z.1)
  (fun z=>[(27,.c (.int .i64 z.1)),(26,.c (.int .i64 (aH args).length)),(25,.c (.sl 5 (aH args))),(4,.c (.str V)),(5,.own (.tok 6000 0) 2 (aE z.2))]) (fun _=>[]) (fun _=>[(6000,0)]) [6000] (0,[])
  ⟨bn,cn,rfl⟩ ⟨.inl rfl,.inl rfl,.inl rfl,.inl rfl,.inl rfl,trivial⟩ trivial ⟨rfl,trivial⟩ rfl rfl rfl ?_
 rintro⟨i,acc⟩ ⟨H,Cq,p⟩ ih;simp only at H Cq p;rcases gf args i H with ⟨x,O,hm⟩|G
 ·have hc:=lq O;have h2:=bD O;obtain⟨w,Q⟩:∃w,V[i]?=some w:=⟨V[i]' bn,cn⟩
  have IJ:=W w (aaz Q);have hxs:=ee hm;have A:=ki x bn;rw[dO O,dO Q]at p;obtain⟨T,D,k3,k4,k5⟩:=x;rcases IJ with rfl|rfl|rfl|rfl
  ·have K:((((110:UInt8).toNat:Nat):Int)==110)=true:=rfl;rw[WD]at p;by_cases g1:T=0;rotate_left
   ·rw[if_neg (fun h=>g1 h.1)]at p;rw[p];have u:(T != 0)=true:=by simpa using g1
    clear ih p
    repeat' (first|refine qo ?_|(refine zc ?_ ?_<;>intro h<;>first|(cases h;done)|rw[h]|skip)|refine uI rfl (i) rfl (dX O) rfl ?_|refine ai.lH Tryz.hX kn rfl rfl rfl rfl rfl rfl rfl (m:=i) rfl Q ?_|(refine uA rfl ?_ ?_<;>(try (show(_:Nat)*_<=_;dsimp only)))|((first|refine zt ?_|refine zu ?_ ?_)<;>intro h<;>(fail_if_success (cases h;done))<;>rw[h]))
    all_goals exact vL
   subst g1;by_cases C:D<0
   ·rw[if_neg (fun h=>by omega)]at p;rw[p];have u:decide (D<0)=true:=aan C;clear ih p
    repeat' (first|refine qo ?_|(refine zc ?_ ?_<;>intro h<;>first|(cases h;done)|rw[h]|skip)|refine uI rfl (i) rfl (dX O) rfl ?_|refine ai.lH Tryz.hX kn rfl rfl rfl rfl rfl rfl rfl (m:=i) rfl Q ?_|(refine uA rfl ?_ ?_<;>(try (show(_:Nat)*_<=_;dsimp only)))|((first|refine zt ?_|refine zu ?_ ?_)<;>intro h<;>(fail_if_success (cases h;done))<;>rw[h]))
    all_goals exact vL
   have g4:decide (D<0)=false:=aaw C;by_cases B:D>40
   ·rw[if_neg (fun h=>by omega)]at p;rw[p];have u:decide (D>40)=true:=aan B;clear ih p
    repeat' (first|refine qo ?_|(refine zc ?_ ?_<;>intro h<;>first|(cases h;done)|rw[h]|skip)|refine uI rfl (i) rfl (dX O) rfl ?_|refine ai.lH Tryz.hX kn rfl rfl rfl rfl rfl rfl rfl (m:=i) rfl Q ?_|(refine uA rfl ?_ ?_<;>(try (show(_:Nat)*_<=_;dsimp only)))|((first|refine zt ?_|refine zu ?_ ?_)<;>intro h<;>(fail_if_success (cases h;done))<;>rw[h]))
    all_goals exact vL
   have g6:decide (D>40)=false:=aaw B;rw[if_pos ⟨rfl,bn,bn⟩]at p
   repeat' (first|refine qo ?_|(refine zc ?_ ?_<;>intro h<;>first|(cases h;done)|rw[h]|skip)|refine uI rfl (i) rfl (dX O) rfl ?_|refine ai.lH Tryz.hX kn rfl rfl rfl rfl rfl rfl rfl (m:=i) rfl Q ?_|(refine uA rfl ?_ ?_<;>(try (show(_:Nat)*_<=_;dsimp only)))|((first|refine zt ?_|refine zu ?_ ?_)<;>intro h<;>(fail_if_success (cases h;done))<;>rw[h]))
   refine AK.again (ih (i+1,acc) ⟨h2,T0,p⟩ fc) ⟨.inl (iD (i:=i) bn),.inl rfl,.inl rfl,.inl rfl,.inl rfl,trivial⟩ trivial ⟨rfl,trivial⟩ rfl rfl rfl
  ·have K:((((99:UInt8).toNat:Nat):Int)==110)=false:=rfl;have q:((((99:UInt8).toNat:Nat):Int)==99)=true:=rfl;rw[WE]at p;by_cases g1:T=3;rotate_left
   ·rw[if_neg g1]at p;rw[p];have u:(T != 3)=true:=by simpa using g1
    clear ih p
    repeat' (first|refine qo ?_|(refine zc ?_ ?_<;>intro h<;>first|(cases h;done)|rw[h]|skip)|refine uI rfl (i) rfl (dX O) rfl ?_|refine ai.lH Tryz.hX kn rfl rfl rfl rfl rfl rfl rfl (m:=i) rfl Q ?_|(refine uA rfl ?_ ?_<;>(try (show(_:Nat)*_<=_;dsimp only)))|((first|refine zt ?_|refine zu ?_ ?_)<;>intro h<;>(fail_if_success (cases h;done))<;>rw[h]))
    all_goals exact vL
   subst g1;rw[if_pos rfl]at p
   repeat' (first|refine qo ?_|(refine zc ?_ ?_<;>intro h<;>first|(cases h;done)|rw[h]|skip)|refine uI rfl (i) rfl (dX O) rfl ?_|refine ai.lH Tryz.hX kn rfl rfl rfl rfl rfl rfl rfl (m:=i) rfl Q ?_|(refine uA rfl ?_ ?_<;>(try (show(_:Nat)*_<=_;dsimp only)))|((first|refine zt ?_|refine zu ?_ ?_)<;>intro h<;>(fail_if_success (cases h;done))<;>rw[h]))
   refine AK.again (ih (i+1,acc) ⟨h2,T0,p⟩ fc) ⟨.inl (iD (i:=i) bn),.inl rfl,.inl rfl,.inl rfl,.inl rfl,trivial⟩ trivial ⟨rfl,trivial⟩ rfl rfl rfl
  ·have K:((((116:UInt8).toNat:Nat):Int)==110)=false:=rfl;have q:((((116:UInt8).toNat:Nat):Int)==99)=false:=rfl;have f3:((((116:UInt8).toNat:Nat):Int)==116)=true:=rfl;rw[WG]at p;rcases hr:aZ (.mk T D k3 k4 k5)with ⟨⟨U,us⟩,e⟩
   rw[hr]at A p;simp only at A p;by_cases g1:e=0;rotate_left
   ·rw[if_neg g1]at p;rw[p];have u:(e != 0)=true:=by simpa using g1
    clear ih p
    repeat' (first|refine qo ?_|(refine zc ?_ ?_<;>intro h<;>first|(cases h;done)|rw[h]|skip)|refine uI rfl (i) rfl (dX O) rfl ?_|refine ai.lH Tryz.hX kn rfl rfl rfl rfl rfl rfl rfl (m:=i) rfl Q ?_|refine uC rfl A ?_|(refine uA rfl ?_ ?_<;>(try (show(_:Nat)*_<=_;dsimp only)))|((first|refine zt ?_|refine zu ?_ ?_)<;>intro h<;>(fail_if_success (cases h;done))<;>rw[h]))
    all_goals exact vL
   subst g1;rw[if_pos rfl]at p
   repeat' (first|refine qo ?_|(refine zc ?_ ?_<;>intro h<;>first|(cases h;done)|rw[h]|skip)|refine uI rfl (i) rfl (dX O) rfl ?_|refine ai.lH Tryz.hX kn rfl rfl rfl rfl rfl rfl rfl (m:=i) rfl Q ?_|refine uC rfl A ?_|(refine uA rfl ?_ ?_<;>(try (show(_:Nat)*_<=_;dsimp only)))|((first|refine zt ?_|refine zu ?_ ?_)<;>intro h<;>(fail_if_success (cases h;done))<;>rw[h]))
   ·have h1:=aY acc;simp only[aaa,aab];omega
   ·have J:aE acc++[eC (.mk U us)]=aE (acc++[Ty.mk U us]):=(jK acc [_]).symm;refine AK.fY [] [(6000,(0,some 6000))] (env':=[(27,.c (.int .i64 ((i+1:Nat):Int))),(26,.c (.int .i64 (aH args).length)),(25,.c (.sl 5 (aH args))),(4,.c (.str V)),(5,.own (.tok 6000 0) 2 (aE (acc++[Ty.mk U us])))])
     (bs':=[]) (ts':=[(6000,0)]) (us':=[6000])
     ⟨⟨_,rfl,.inl (kL (i:=i) bn)⟩,⟨_,rfl,.inl rfl⟩,⟨_,rfl,.inl rfl⟩,⟨_,rfl,.inl rfl⟩,⟨_,rfl,⟨_,rfl,.inr ⟨_,_,rfl,rfl,congrArg (AV.own (.tok 6000 1) 2) J⟩⟩⟩,trivial⟩ trivial rfl ?_
    exact ih (i+1,acc++[Ty.mk U us]) ⟨h2,j0,p⟩ fc
  ·have K:((((118:UInt8).toNat:Nat):Int)==110)=false:=rfl;have q:((((118:UInt8).toNat:Nat):Int)==99)=false:=rfl;have f3:((((118:UInt8).toNat:Nat):Int)==116)=false:=rfl;rw[WH]at p
   repeat' (first|refine qo ?_|(refine zc ?_ ?_<;>intro h<;>first|(cases h;done)|rw[h]|skip)|refine uI rfl (i) rfl (dX O) rfl ?_|refine ai.lH Tryz.hX kn rfl rfl rfl rfl rfl rfl rfl (m:=i) rfl Q ?_|(refine uA rfl ?_ ?_<;>(try (show(_:Nat)*_<=_;dsimp only)))|((first|refine zt ?_|refine zu ?_ ?_)<;>intro h<;>(fail_if_success (cases h;done))<;>rw[h]))
   refine AK.again (ih (i+1,acc) ⟨h2,T0,p⟩ fc) ⟨.inl (iD (i:=i) bn),.inl rfl,.inl rfl,.inl rfl,.inl rfl,trivial⟩ trivial ⟨rfl,trivial⟩ rfl rfl rfl
 ·have hc:=iX G;have h0:ja V args []=some acc:=by
   rw[p,G,List.drop_length,Y,List.drop_length];exact Q7 _ _
  rw[h0];clear ih p;exact dw
end Go.Proofs
