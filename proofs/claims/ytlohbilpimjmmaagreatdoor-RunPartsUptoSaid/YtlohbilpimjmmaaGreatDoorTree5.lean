/- What node of package tree's reader and Decode answer. -/
import Derived.Test.YtlohbilpimjmmaaGreatDoorTree4
set_option maxHeartbeats 0
set_option linter.unusedVariables false
set_option linter.unusedSimpArgs false
set_option maxRecDepth 100000
namespace Go.Proofs
open Go.cu
theorem TO (s:List UInt8) (k:Int):mP 0 s k=⟨sE,[],k+1,4⟩:=rfl
theorem TP (g:Nat) (s:List UInt8) (k:Int) (h:k+1>300):mP (g+1) s k=⟨sE,[],k+1,4⟩:=by simp only[mP,if_pos h]
theorem VF (g:Nat) (k:Int) (h:¬(k+1>300)):mP (g+1) [] k=⟨sE,[],k+1,1⟩:=by simp only[mP,if_neg h]
theorem TQ (g:Nat) (c:UInt8) (s:List UInt8) (k:Int) (h:¬(k+1>300)):mP (g+1) (c::s) k=iA (mP g) c.toNat s (k+1):=by simp only[mP,if_neg h]
theorem aaf (f:List UInt8->Int->RX) (s:List UInt8) (k:Int):iA f 0 s k=⟨.mk 0 (cA s) 0 [] [],de s,k,ji s⟩:=rfl
theorem QC (f:List UInt8->Int->RX) (s:List UInt8) (k:Int) (h:cA s<0\/cA s>200\/cA s>(de s).length):iA f 1 s k=⟨.mk 1 0 0 [] [],[],k,1⟩:=by simp only[iA,if_pos h];rfl
theorem Nz (f:List UInt8->Int->RX) (s:List UInt8) (k:Int) (h:¬(cA s<0\/cA s>200\/cA s>(de s).length)):iA f 1 s k=⟨.mk 1 0 0 ((de s).take (cA s).toNat) [],(de s).drop (cA s).toNat,k,ji s⟩:=by simp only[iA,if_neg h];rfl
theorem QD (f:List UInt8->Int->RX) (k:Int):iA f 2 [] k=⟨.mk 2 0 0 [] [],[],k,1⟩:=rfl
theorem NA (f:List UInt8->Int->RX) (p:UInt8) (s:List UInt8) (k:Int) (h:qN p.toNat=true):iA f 2 (p::s) k=iY f 2 p.toNat s k:=by simp[iA,h]
theorem QE (f:List UInt8->Int->RX) (p:UInt8) (s:List UInt8) (k:Int) (h:qN p.toNat=false):iA f 2 (p::s) k=⟨.mk 2 0 p.toNat [] [],[],k,1⟩:=by simp[iA,h]
theorem aag (f:List UInt8->Int->RX) (s:List UInt8) (k:Int):iA f 3 s k=iY f 3 0 s k:=rfl
theorem VG (f:List UInt8->Int->RX) (c:Nat) (s:List UInt8) (k:Int) (h:c>3):iA f c s k=⟨.mk c 0 0 [] [],[],k,1⟩:=by
 simp only[iA];rw[if_neg bn,if_neg bn,if_neg bn,if_neg bn]
theorem Cm (f:List UInt8->Int->RX) (kind p:Int) (s:List UInt8) (k:Int) (h:ji s≠0\/cA s<0):iY f kind p s k=⟨.mk kind 0 p [] [],[],k,1⟩:=by simp only[iY,if_pos h]
theorem Pb (f:List UInt8->Int->RX) (kind p:Int) (s:List UInt8) (k:Int) (h:¬(ji s≠0\/cA s<0)):iY f kind p s k=⟨.mk kind 0 p [] (dZ f (cA s).toNat (de s) k 0).1,(dZ f (cA s).toNat (de s) k 0).2.1,(dZ f (cA s).toNat (de s) k 0).2.2.1,(dZ f (cA s).toNat (de s) k 0).2.2.2⟩:=by simp only[iY,if_neg h]
theorem Gq (f:List UInt8->Int->RX) (s:List UInt8) (k e:Int):dZ f 0 s k e=([],s,k,e):=rfl
theorem KZ (f:List UInt8->Int->RX) (v:Nat) (s:List UInt8) (k e:Int) (h:e≠0):dZ f v s k e=([],s,k,e):=by
 cases v with
 | zero=>rfl
 | succ v=>simp only[dZ,if_pos h]
theorem Gr (f:List UInt8->Int->RX) (v:Nat) (s:List UInt8) (k:Int):dZ f (v+1) s k 0=((f s k).n::(dZ f v (f s k).s (f s k).k (f s k).e).1,(dZ f v (f s k).s (f s k).k (f s k).e).2):=by simp[dZ]
theorem zC {s:List UInt8} (h:ji s=0) : -bM<=cA s/\cA s<=bM:=by
 cases O:eW s with
 | none=>rw[(jJ O).2]at h;simp at h
 | some x =>
  obtain⟨n,r⟩:=x;rw[(sv O).1];exact(mW O).2
theorem tD (s:List UInt8):ji s=0\/ji s=1/\de s=[]:=by
 cases O:eW s with
 | none=>right;exact⟨(jJ O).2,(jJ O).1⟩
 | some x=>left;exact(sv O).2.2
theorem tE (k e:Int) (P:e≠0):fJ 157 [.box [.c (.str []),.c (.int .i64 k),.c (.int .i64 e)]] [.c (.int .i64 0)] [(0,[.c (.str []),.c (.int .i64 k),.c (.int .i64 e)])]:=by
 have h1:=KY k e P;refine bz.tI Tryz.func157 rfl (fun args w=>Tryz.call157 args w) (Nat.le_of_ble_eq_true rfl) [(0,.ptr 1000000 0)] [(1000000,[.c (.str []),.c (.int .i64 k),.c (.int .i64 e)])] [] [1000000] rfl rfl fun β=>?_;have hf:=Tryz.func157
 repeat' (first|refine sz ?_|refine zr ?_ ?_|(refine zc ?_ ?_<;>intro h<;>first|(cases h;done)|rw[h]|skip)|refine jl ?_ (hq:=h1)|((first|refine zt ?_|refine zu ?_ ?_)<;>intro h<;>(fail_if_success (cases h;done))<;>rw[h]))
 refine AK.eM (α:=Unit) (fun _=>True) (fun _=>0)
  (fun _=>[(3,.c (.int .i64 0)),(4,.c (.bool (decide ((0:Nat)/64%2=1)))),(5,.c (.int .i64 ((0%64:Nat):Int))),(0,.ptr 1000000 0)])
  (fun _=>[(1000000,[.c (.str []),.c (.int .i64 k),.c (.int .i64 e)])]) (fun _=>[]) [1000000] ()
  trivial ⟨.inl rfl,.inl (congrArg (fun z=>some (AV.c (CV.bool z))) (QX (c:=0) bn)),.inl (congrArg (fun z=>some (AV.c (CV.int .i64 z))) (IG (a:=0) bn)),.inl rfl,trivial⟩ ⟨rfl,trivial⟩ trivial rfl rfl rfl ?_
 rintro _ _ S;clear S;exact dq
attribute [local irreducible] AK ai bw bz mP iA iY dZ cA de ji qN
theorem zD:∀(g:Nat) (s:List UInt8) (k:Int),g<=24->0<=k->k<=300 ->
  fJ 151 [.box [.c (.str s),.c (.int .i64 k),.c (.int .i64 0)],.v (.c (.int .i64 (25-(g:Int))))] [.c (aW (mP g s k).n)] [(0,[.c (.str (mP g s k).s),.c (.int .i64 (mP g s k).k),.c (.int .i64 (mP g s k).e)])]
 | 0,s,k,hg,wQ,hk=>by
  rw[TO];have A:IntKind.i64.wrap (k+1)=k+1:=gZ bn bn;have h1:=iN s (k+1) 4;rw[<- A]at h1;refine bz.tI Tryz.func151 rfl (fun args w=>Tryz.call151 args w) (Nat.le_of_ble_eq_true rfl) [(0,.ptr 1000000 0),(1,.c (.int .i64 25))] [(1000000,[.c (.str s),.c (.int .i64 k),.c (.int .i64 0)])] [] [1000000] rfl rfl fun β=>?_;have hf:=Tryz.func151
  repeat' (first|refine sz ?_|refine zr ?_ ?_|(refine zc ?_ ?_<;>intro h<;>first|(cases h;done)|rw[h]|skip)|refine jl ?_ (hq:=h1) (hok:=by exact⟨_,_,_,rfl,rfl,⟨_,_,rfl,rfl,⟨_,_,rfl,rfl,⟨_,_,rfl,rfl,rfl⟩⟩⟩,⟨_,_,rfl,rfl,rfl⟩⟩)|(refine uA rfl ?_ ?_<;>(try (show(_:Nat)*_<=_;dsimp only)))|((first|refine zt ?_|refine zu ?_ ?_)<;>intro h<;>(fail_if_success (cases h;done))<;>rw[h]))
  all_goals first|rfl|(rw[A])
 | g+1,s,k,hg,wQ,hk=>by
  have A:IntKind.i64.wrap (k+1)=k+1:=gZ bn bn;have hin:∀(P:List UInt8) (k':Int),0<=k'->k'<=300->fJ 151 [.box [.c (.str P),.c (.int .i64 k'),.c (.int .i64 0)],.v (.c (.int .i64 (IntKind.i64.wrap (25-((g+1:Nat):Int)+1))))] [.c (aW (mP g P k').n)] [(0,[.c (.str (mP g P k').s),.c (.int .i64 (mP g P k').k),.c (.int .i64 (mP g P k').e)])]:=by
   intro P k' h0 h1;rw[gZ bn bn,show(25-((g+1:Nat):Int)+1)=25-(g:Int)from by omega];exact zD g P k' bn h0 h1
  have c0:decide ((25-((g+1:Nat):Int))>24)=false:=aaw bn;by_cases K1:k+1>300
  ·rw[TP _ _ _ K1];have c1:decide (IntKind.i64.wrap (k+1)>300)=true:=aan (by rw[A];exact K1);have h1:=iN s (IntKind.i64.wrap (k+1)) 4;refine bz.tI Tryz.func151 rfl (fun args w=>Tryz.call151 args w) (Nat.le_of_ble_eq_true rfl) [(0,.ptr 1000000 0),(1,.c (.int .i64 (25-((g+1:Nat):Int))))] [(1000000,[.c (.str s),.c (.int .i64 k),.c (.int .i64 0)])] [] [1000000] rfl rfl fun β=>?_;have hf:=Tryz.func151
   repeat' (first|refine sz ?_|refine zr ?_ ?_|(refine zc ?_ ?_<;>intro h<;>first|(cases h;done)|rw[h]|skip)|refine jl ?_ (hq:=h1) (hok:=by exact⟨_,_,_,rfl,rfl,⟨_,_,rfl,rfl,⟨_,_,rfl,rfl,⟨_,_,rfl,rfl,rfl⟩⟩⟩,⟨_,_,rfl,rfl,rfl⟩⟩)|(refine uA rfl ?_ ?_<;>(try (show(_:Nat)*_<=_;dsimp only)))|((first|refine zt ?_|refine zu ?_ ?_)<;>intro h<;>(fail_if_success (cases h;done))<;>rw[h]))
   all_goals first|rfl|(rw[A])
  have c1:decide (IntKind.i64.wrap (k+1)>300)=false:=aaw (by rw[A];exact K1);cases s with
  | nil =>
   rw[VF _ _ K1];have h1:=zB (IntKind.i64.wrap (k+1));have h2:=tE (IntKind.i64.wrap (k+1)) 1 bn;refine bz.tI Tryz.func151 rfl (fun args w=>Tryz.call151 args w) (Nat.le_of_ble_eq_true rfl) [(0,.ptr 1000000 0),(1,.c (.int .i64 (25-((g+1:Nat):Int))))] [(1000000,[.c (.str []),.c (.int .i64 k),.c (.int .i64 0)])] [] [1000000] rfl rfl fun β=>?_;have hf:=Tryz.func151
   repeat' (first|refine sz ?_|refine zr ?_ ?_|(refine zc ?_ ?_<;>intro h<;>first|(cases h;done)|rw[h]|skip)|refine jl ?_ (hq:=h1) (hok:=by exact⟨_,_,_,rfl,rfl,⟨_,_,rfl,rfl,⟨_,_,rfl,rfl,⟨_,_,rfl,rfl,rfl⟩⟩⟩,rfl⟩)|refine jl ?_ (hq:=h2) (hok:=by exact⟨_,_,_,rfl,rfl,⟨_,_,rfl,rfl,⟨_,_,rfl,rfl,⟨_,_,rfl,rfl,rfl⟩⟩⟩,rfl⟩)|(refine uA rfl ?_ ?_<;>(try (show(_:Nat)*_<=_;dsimp only)))|((first|refine zt ?_|refine zu ?_ ?_)<;>intro h<;>(fail_if_success (cases h;done))<;>rw[h]))
   all_goals first|rfl|(rw[A])
  | cons c s =>
   rw[TQ _ _ _ _ K1];have Y:=wK c s (IntKind.i64.wrap (k+1)) 0;have hcb:=c.toNat_lt;generalize hq:c.toNat=q at Y hcb;by_cases q0:q=0
   ·subst q0;rw[aaf];have U:=oU s (IntKind.i64.wrap (k+1));refine bz.tI Tryz.func151 rfl (fun args w=>Tryz.call151 args w) (Nat.le_of_ble_eq_true rfl) [(0,.ptr 1000000 0),(1,.c (.int .i64 (25-((g+1:Nat):Int))))] [(1000000,[.c (.str (c::s)),.c (.int .i64 k),.c (.int .i64 0)])] [] [1000000] rfl rfl fun β=>?_;have hf:=Tryz.func151
    repeat' (first|refine sz ?_|refine zr ?_ ?_|(refine zc ?_ ?_<;>intro h<;>first|(cases h;done)|rw[h]|skip)|refine jl ?_ (hq:=Y) (hok:=by exact⟨_,_,_,rfl,rfl,⟨_,_,rfl,rfl,⟨_,_,rfl,rfl,⟨_,_,rfl,rfl,rfl⟩⟩⟩,rfl⟩)|refine jl ?_ (hq:=U) (hok:=by exact⟨_,_,_,rfl,rfl,⟨_,_,rfl,rfl,⟨_,_,rfl,rfl,⟨_,_,rfl,rfl,rfl⟩⟩⟩,rfl⟩)|(refine uA rfl ?_ ?_<;>(try (show(_:Nat)*_<=_;dsimp only)))|((first|refine zt ?_|refine zu ?_ ?_)<;>intro h<;>(fail_if_success (cases h;done))<;>rw[h]))
    all_goals first|rfl|(rw[A])
   by_cases q1:q=1
   ·subst q1;have U:=oU s (IntKind.i64.wrap (k+1));by_cases aah:cA s<0\/cA s>200\/cA s>(de s).length
    ·rw[QC _ _ _ aah];have D:fJ 152 [.box [.c (.str (de s)),.c (.int .i64 (IntKind.i64.wrap (k+1))),.c (.int .i64 (ji s))],.v (.c (.int .i64 1))] [] [(0,[.c (.str []),.c (.int .i64 (IntKind.i64.wrap (k+1))),.c (.int .i64 1)])]:=by
      rcases tD s with T|⟨T,O⟩
      ·rw[T];exact iN _ _ _
      ·rw[T,O];exact wJ _ _ _ _ bn
     rcases nX (cA s<0)with ⟨d1,b1⟩|⟨d1,b1⟩<;>rcases nX (cA s>200)with ⟨d2,b2⟩|⟨d2,b2⟩<;>rcases nX (cA s>(de s).length)with ⟨d3,b3⟩|⟨d3,b3⟩
     all_goals first|(exfalso;omega)|skip
     all_goals
      refine bz.tI Tryz.func151 rfl (fun args w=>Tryz.call151 args w) (Nat.le_of_ble_eq_true rfl) [(0,.ptr 1000000 0),(1,.c (.int .i64 (25-((g+1:Nat):Int))))] [(1000000,[.c (.str (c::s)),.c (.int .i64 k),.c (.int .i64 0)])] [] [1000000] rfl rfl fun β=>?_;have hf:=Tryz.func151
      repeat' (first|refine sz ?_|refine zr ?_ ?_|(refine zc ?_ ?_<;>intro h<;>first|(cases h;done)|rw[h]|skip)|refine jl ?_ (hq:=Y) (hok:=by exact⟨_,_,_,rfl,rfl,⟨_,_,rfl,rfl,⟨_,_,rfl,rfl,⟨_,_,rfl,rfl,rfl⟩⟩⟩,rfl⟩)|refine jl ?_ (hq:=U) (hok:=by exact⟨_,_,_,rfl,rfl,⟨_,_,rfl,rfl,⟨_,_,rfl,rfl,⟨_,_,rfl,rfl,rfl⟩⟩⟩,rfl⟩)|refine jl ?_ (hq:=D) (hok:=by exact⟨_,_,_,rfl,rfl,⟨_,_,rfl,rfl,⟨_,_,rfl,rfl,⟨_,_,rfl,rfl,rfl⟩⟩⟩,⟨_,_,rfl,rfl,rfl⟩⟩)|(refine uA rfl ?_ ?_<;>(try (show(_:Nat)*_<=_;dsimp only)))|((first|refine zt ?_|refine zu ?_ ?_)<;>intro h<;>(fail_if_success (cases h;done))<;>rw[h]))
      all_goals first|rfl|(rw[A])
    ·rw[Nz _ _ _ aah];have d1:decide (cA s<0)=false:=aaw bn;have d2:decide (cA s>200)=false:=aaw bn;have d3:decide (cA s>(de s).length)=false:=aaw bn;obtain⟨v,hv⟩:∃v:Nat,cA s=v:=⟨(cA s).toNat,bn⟩
     have hvl:v<=(de s).length:=by omega
     rw[hv]at U d1 d2 d3 ⊢;have d12:(bif decide ((v:Int)<0)then true else decide ((v:Int)>200))=false:=by rw[d1,d2];rfl
     refine bz.tI Tryz.func151 rfl (fun args w=>Tryz.call151 args w) (Nat.le_of_ble_eq_true rfl) [(0,.ptr 1000000 0),(1,.c (.int .i64 (25-((g+1:Nat):Int))))] [(1000000,[.c (.str (c::s)),.c (.int .i64 k),.c (.int .i64 0)])] [] [1000000] rfl rfl fun β=>?_;have hf:=Tryz.func151
     repeat' (first|refine sz ?_|refine zr ?_ ?_|(refine zc ?_ ?_<;>intro h<;>first|(cases h;done)|rw[h]|skip)|refine jl ?_ (hq:=Y) (hok:=by exact⟨_,_,_,rfl,rfl,⟨_,_,rfl,rfl,⟨_,_,rfl,rfl,⟨_,_,rfl,rfl,rfl⟩⟩⟩,rfl⟩)|refine jl ?_ (hq:=U) (hok:=by exact⟨_,_,_,rfl,rfl,⟨_,_,rfl,rfl,⟨_,_,rfl,rfl,⟨_,_,rfl,rfl,rfl⟩⟩⟩,rfl⟩)|refine ai.DG Tryz.hX kn rfl rfl rfl rfl rfl rfl (l:=none) (h:=some v) rfl rfl hvl (Nat.zero_le _) ?_|refine ai.DG Tryz.hX kn rfl rfl rfl rfl rfl rfl (l:=some v) (h:=none) rfl rfl (aam _) hvl ?_|(refine uA rfl ?_ ?_<;>(try (show(_:Nat)*_<=_;dsimp only)))|((first|refine zt ?_|refine zu ?_ ?_)<;>intro h<;>(fail_if_success (cases h;done))<;>rw[h]))
     all_goals first|rfl|(rw[A];done)|(rw[A];simp;done)|(simp[A];done)
   by_cases q2:q=2
   ·subst q2;cases s with
    | nil =>
     rw[QD];have h1:=KY (IntKind.i64.wrap (k+1)) 1 bn;have h2:=zB (IntKind.i64.wrap (k+1));have hp0:qN 0=false:=by decide +kernel
     have K:=lY 0;rw[hp0]at K;have h3:=tE (IntKind.i64.wrap (k+1)) 1 bn;have D:=wJ [] (IntKind.i64.wrap (k+1)) 1 1 bn;refine bz.tI Tryz.func151 rfl (fun args w=>Tryz.call151 args w) (Nat.le_of_ble_eq_true rfl) [(0,.ptr 1000000 0),(1,.c (.int .i64 (25-((g+1:Nat):Int))))] [(1000000,[.c (.str (c::[])),.c (.int .i64 k),.c (.int .i64 0)])] [] [1000000] rfl rfl fun β=>?_;have hf:=Tryz.func151
     repeat' (first|refine sz ?_|refine zr ?_ ?_|(refine zc ?_ ?_<;>intro h<;>first|(cases h;done)|rw[h]|skip)|refine jl ?_ (hq:=Y) (hok:=by exact⟨_,_,_,rfl,rfl,⟨_,_,rfl,rfl,⟨_,_,rfl,rfl,⟨_,_,rfl,rfl,rfl⟩⟩⟩,rfl⟩)|refine jl ?_ (hq:=h2) (hok:=by exact⟨_,_,_,rfl,rfl,⟨_,_,rfl,rfl,⟨_,_,rfl,rfl,⟨_,_,rfl,rfl,rfl⟩⟩⟩,rfl⟩)|refine uC rfl K ?_|refine jl ?_ (hq:=h3) (hok:=by exact⟨_,_,_,rfl,rfl,⟨_,_,rfl,rfl,⟨_,_,rfl,rfl,⟨_,_,rfl,rfl,rfl⟩⟩⟩,rfl⟩)|refine jl ?_ (hq:=D) (hok:=by exact⟨_,_,_,rfl,rfl,⟨_,_,rfl,rfl,⟨_,_,rfl,rfl,⟨_,_,rfl,rfl,rfl⟩⟩⟩,⟨_,_,rfl,rfl,rfl⟩⟩)|(refine uA rfl ?_ ?_<;>(try (show(_:Nat)*_<=_;dsimp only)))|((first|refine zt ?_|refine zu ?_ ?_)<;>intro h<;>(fail_if_success (cases h;done))<;>rw[h]))
     refine AK.eM (α:=Unit) (fun _=>True) (fun _=>0)
      (fun _=>[(7,.c (.int .i64 0)),(0,.ptr 1000000 0),(1,.c (.int .i64 (25-((g+1:Nat):Int)))),(4,.ptr 4 0),(5,.ptr 5 0)])
      (fun _=>[(4,[.c (.int .i64 0),.c (.int .i64 0),.c (.int .i64 0),.c (.str []),.own .exact 5 []]),(5,[.c (.int .i64 ((2:Nat):Int)),.c (.int .i64 0),.c (.int .i64 0),.c (.str []),.own .exact 5 []]),(1000000,[.c (.str []),.c (.int .i64 (IntKind.i64.wrap (k+1))),.c (.int .i64 1)])]) (fun _=>[]) [4,5,1000000] ()
      trivial ⟨.inl rfl,.inl rfl,.inl rfl,.inl rfl,.inl rfl,trivial⟩ ⟨rfl,rfl,rfl,trivial⟩ trivial rfl rfl rfl ?_
     rintro _ _ S;clear S
     repeat' (first|refine sz ?_|refine zr ?_ ?_|(refine zc ?_ ?_<;>intro h<;>first|(cases h;done)|rw[h]|skip)|(refine uA rfl ?_ ?_<;>(try (show(_:Nat)*_<=_;dsimp only)))|((first|refine zt ?_|refine zu ?_ ?_)<;>intro h<;>(fail_if_success (cases h;done))<;>rw[h]))
     all_goals first|rfl|(rw[A])
    | cons p s =>
     have Wx:=wK p s (IntKind.i64.wrap (k+1)) 0;have Kr:=p.toNat_lt;cases hp:qN p.toNat with
     | false =>
      rw[QE _ _ _ _ hp];have K:=lY p.toNat;rw[hp]at K;have h3:=tE (IntKind.i64.wrap (k+1)) 1 bn;have D:=iN s (IntKind.i64.wrap (k+1)) 1;refine bz.tI Tryz.func151 rfl (fun args w=>Tryz.call151 args w) (Nat.le_of_ble_eq_true rfl) [(0,.ptr 1000000 0),(1,.c (.int .i64 (25-((g+1:Nat):Int))))] [(1000000,[.c (.str (c::p::s)),.c (.int .i64 k),.c (.int .i64 0)])] [] [1000000] rfl rfl fun β=>?_;have hf:=Tryz.func151
      repeat' (first|refine sz ?_|refine zr ?_ ?_|(refine zc ?_ ?_<;>intro h<;>first|(cases h;done)|rw[h]|skip)|refine jl ?_ (hq:=Y) (hok:=by exact⟨_,_,_,rfl,rfl,⟨_,_,rfl,rfl,⟨_,_,rfl,rfl,⟨_,_,rfl,rfl,rfl⟩⟩⟩,rfl⟩)|refine jl ?_ (hq:=Wx) (hok:=by exact⟨_,_,_,rfl,rfl,⟨_,_,rfl,rfl,⟨_,_,rfl,rfl,⟨_,_,rfl,rfl,rfl⟩⟩⟩,rfl⟩)|refine uC rfl K ?_|refine jl ?_ (hq:=h3) (hok:=by exact⟨_,_,_,rfl,rfl,⟨_,_,rfl,rfl,⟨_,_,rfl,rfl,⟨_,_,rfl,rfl,rfl⟩⟩⟩,rfl⟩)|refine jl ?_ (hq:=D) (hok:=by exact⟨_,_,_,rfl,rfl,⟨_,_,rfl,rfl,⟨_,_,rfl,rfl,⟨_,_,rfl,rfl,rfl⟩⟩⟩,⟨_,_,rfl,rfl,rfl⟩⟩)|(refine uA rfl ?_ ?_<;>(try (show(_:Nat)*_<=_;dsimp only)))|((first|refine zt ?_|refine zu ?_ ?_)<;>intro h<;>(fail_if_success (cases h;done))<;>rw[h]))
      refine AK.eM (α:=Unit) (fun _=>True) (fun _=>0)
       (fun _=>[(7,.c (.int .i64 0)),(0,.ptr 1000000 0),(1,.c (.int .i64 (25-((g+1:Nat):Int)))),(4,.ptr 4 0),(5,.ptr 5 0)])
       (fun _=>[(4,[.c (.int .i64 0),.c (.int .i64 0),.c (.int .i64 0),.c (.str []),.own .exact 5 []]),(5,[.c (.int .i64 ((2:Nat):Int)),.c (.int .i64 0),.c (.int .i64 ((p.toNat:Nat):Int)),.c (.str []),.own .exact 5 []]),(1000000,[.c (.str []),.c (.int .i64 (IntKind.i64.wrap (k+1))),.c (.int .i64 1)])]) (fun _=>[]) [4,5,1000000] ()
       trivial ⟨.inl rfl,.inl rfl,.inl rfl,.inl rfl,.inl rfl,trivial⟩ ⟨rfl,rfl,rfl,trivial⟩ trivial rfl rfl rfl ?_
      rintro _ _ S;clear S
      repeat' (first|refine sz ?_|refine zr ?_ ?_|(refine zc ?_ ?_<;>intro h<;>first|(cases h;done)|rw[h]|skip)|(refine uA rfl ?_ ?_<;>(try (show(_:Nat)*_<=_;dsimp only)))|((first|refine zt ?_|refine zu ?_ ?_)<;>intro h<;>(fail_if_success (cases h;done))<;>rw[h]))
      all_goals first|rfl|(rw[A])
     | true =>
      rw[NA _ _ _ _ hp];have K:=lY p.toNat;rw[hp]at K;have U:=oU (s) (IntKind.i64.wrap (k+1));rcases tD (s)with T|⟨T,O⟩
      ·have Iz:=zC T;unfold bM at Iz;rw[T]at U;by_cases B:cA (s)<0
       ·rw[Cm _ _ _ _ _ (.inr B)];have J:decide (cA (s)<0)=true:=aan B;have c6:decide (cA (s)>0)=false:=aaw bn;have D:=iN (de (s)) (IntKind.i64.wrap (k+1)) 1;refine bz.tI Tryz.func151 rfl (fun args w=>Tryz.call151 args w) (Nat.le_of_ble_eq_true rfl) [(0,.ptr 1000000 0),(1,.c (.int .i64 (25-((g+1:Nat):Int))))] [(1000000,[.c (.str (c::p::s)),.c (.int .i64 k),.c (.int .i64 0)])] [] [1000000] rfl rfl fun β=>?_;have hf:=Tryz.func151
        repeat' (first|refine sz ?_|refine zr ?_ ?_|(refine zc ?_ ?_<;>intro h<;>first|(cases h;done)|rw[h]|skip)|refine jl ?_ (hq:=Y) (hok:=by exact⟨_,_,_,rfl,rfl,⟨_,_,rfl,rfl,⟨_,_,rfl,rfl,⟨_,_,rfl,rfl,rfl⟩⟩⟩,rfl⟩)|refine jl ?_ (hq:=Wx) (hok:=by exact⟨_,_,_,rfl,rfl,⟨_,_,rfl,rfl,⟨_,_,rfl,rfl,⟨_,_,rfl,rfl,rfl⟩⟩⟩,rfl⟩)|refine uC rfl K ?_|refine jl ?_ (hq:=U) (hok:=by exact⟨_,_,_,rfl,rfl,⟨_,_,rfl,rfl,⟨_,_,rfl,rfl,⟨_,_,rfl,rfl,rfl⟩⟩⟩,rfl⟩)|refine jl ?_ (hq:=D) (hok:=by exact⟨_,_,_,rfl,rfl,⟨_,_,rfl,rfl,⟨_,_,rfl,rfl,⟨_,_,rfl,rfl,rfl⟩⟩⟩,⟨_,_,rfl,rfl,rfl⟩⟩)|(refine uA rfl ?_ ?_<;>(try (show(_:Nat)*_<=_;dsimp only)))|((first|refine zt ?_|refine zu ?_ ?_)<;>intro h<;>(fail_if_success (cases h;done))<;>rw[h]))
        refine AK.eM (α:=Unit) (fun _=>True) (fun _=>0)
         (fun _=>[(7,.c (.int .i64 (cA (s)))),(0,.ptr 1000000 0),(1,.c (.int .i64 (25-((g+1:Nat):Int)))),(4,.ptr 4 0),(5,.ptr 5 0)])
         (fun _=>[(4,[.c (.int .i64 0),.c (.int .i64 0),.c (.int .i64 0),.c (.str []),.own .exact 5 []]),(5,[.c (.int .i64 ((2:Nat):Int)),.c (.int .i64 0),.c (.int .i64 ((p.toNat:Nat):Int)),.c (.str []),.own .exact 5 []]),(1000000,[.c (.str []),.c (.int .i64 (IntKind.i64.wrap (k+1))),.c (.int .i64 1)])]) (fun _=>[]) [4,5,1000000] ()
         trivial ⟨.inl rfl,.inl rfl,.inl rfl,.inl rfl,.inl rfl,trivial⟩ ⟨rfl,rfl,rfl,trivial⟩ trivial rfl rfl rfl ?_
        rintro _ _ S;clear S
        repeat' (first|refine sz ?_|refine zr ?_ ?_|(refine zc ?_ ?_<;>intro h<;>first|(cases h;done)|rw[h]|skip)|(refine uA rfl ?_ ?_<;>(try (show(_:Nat)*_<=_;dsimp only)))|((first|refine zt ?_|refine zu ?_ ?_)<;>intro h<;>(fail_if_success (cases h;done))<;>rw[h]))
        all_goals first|rfl|(rw[A])
       ·rw[Pb _ _ _ _ _ (by rw[T];simp;omega)];have J:decide (cA (s)<0)=false:=aaw B;obtain⟨V,hv⟩:∃v:Nat,cA (s)=v:=⟨(cA (s)).toNat,bn⟩
        rw[hv]at U J;have u:(cA (s)).toNat=V:=by omega
        rw[u];refine bz.tI Tryz.func151 rfl (fun args w=>Tryz.call151 args w) (Nat.le_of_ble_eq_true rfl) [(0,.ptr 1000000 0),(1,.c (.int .i64 (25-((g+1:Nat):Int))))] [(1000000,[.c (.str (c::p::s)),.c (.int .i64 k),.c (.int .i64 0)])] [] [1000000] rfl rfl fun β=>?_;have hf:=Tryz.func151
        repeat' (first|refine sz ?_|refine zr ?_ ?_|(refine zc ?_ ?_<;>intro h<;>first|(cases h;done)|rw[h]|skip)|refine jl ?_ (hq:=Y) (hok:=by exact⟨_,_,_,rfl,rfl,⟨_,_,rfl,rfl,⟨_,_,rfl,rfl,⟨_,_,rfl,rfl,rfl⟩⟩⟩,rfl⟩)|refine jl ?_ (hq:=Wx) (hok:=by exact⟨_,_,_,rfl,rfl,⟨_,_,rfl,rfl,⟨_,_,rfl,rfl,⟨_,_,rfl,rfl,rfl⟩⟩⟩,rfl⟩)|refine uC rfl K ?_|refine jl ?_ (hq:=U) (hok:=by exact⟨_,_,_,rfl,rfl,⟨_,_,rfl,rfl,⟨_,_,rfl,rfl,⟨_,_,rfl,rfl,rfl⟩⟩⟩,rfl⟩)|(refine uA rfl ?_ ?_<;>(try (show(_:Nat)*_<=_;dsimp only)))|((first|refine zt ?_|refine zu ?_ ?_)<;>intro h<;>(fail_if_success (cases h;done))<;>rw[h]))
        refine AK.fY [(4,4),(5,5),(1000000,1000000)] [(5000,(0,none))] (env':=[(7,.c (.int .i64 (V:Nat))),(0,.ptr 1000000 0),(1,.c (.int .i64 (25-((g+1:Nat):Int)))),(4,.ptr 4 0),(5,.ptr 5 0)])
         (bs':=[(4,[.c (.int .i64 0),.c (.int .i64 0),.c (.int .i64 0),.c (.str []),.own .exact 5 []]),(5,[.c (.int .i64 ((2:Nat):Int)),.c (.int .i64 0),.c (.int .i64 ((p.toNat:Nat):Int)),.c (.str []),.own (.tok 5000 0) 5 []]),(1000000,[.c (.str (de (s))),.c (.int .i64 (k+1)),.c (.int .i64 0)])]) (ts':=[(5000,0)]) (us':=[4,5,1000000,5000])
         ⟨⟨_,rfl,.inl rfl⟩,⟨_,rfl,⟨_,rfl,rfl⟩⟩,⟨_,rfl,.inl rfl⟩,⟨_,rfl,⟨_,rfl,rfl⟩⟩,⟨_,rfl,⟨_,rfl,rfl⟩⟩,trivial⟩ ⟨⟨_,_,rfl,rfl,⟨_,_,rfl,.inl rfl,⟨_,_,rfl,.inl rfl,⟨_,_,rfl,.inl rfl,⟨_,_,rfl,.inl rfl,⟨_,_,rfl,rfl,rfl⟩⟩⟩⟩⟩⟩,⟨_,_,rfl,rfl,⟨_,_,rfl,.inl rfl,⟨_,_,rfl,.inl rfl,⟨_,_,rfl,.inl rfl,⟨_,_,rfl,.inl rfl,⟨_,_,rfl,⟨_,rfl,.inl ⟨rfl,_,rfl,.inr rfl⟩⟩,rfl⟩⟩⟩⟩⟩⟩,⟨_,_,rfl,rfl,⟨_,_,rfl,.inl rfl,⟨_,_,rfl,.inl (congrArg (fun z=>AV.c (.int .i64 z)) A),⟨_,_,rfl,.inl rfl,rfl⟩⟩⟩⟩,trivial⟩ rfl ?_
        refine AK.eM (α:=Nat×List Nd×List UInt8×Int×Int) (fun z=>dZ (mP g) V (de (s)) (k+1) 0=(z.2.1++(dZ (mP g) z.1 z.2.2.1 z.2.2.2.1 z.2.2.2.2).1,(dZ (mP g) z.1 z.2.2.1 z.2.2.2.1 z.2.2.2.2).2)/\0<=z.2.2.2.1/\z.2.2.2.1<=301/\(z.2.2.2.2=0->z.2.2.2.1<=300)/\(z.2.1.length:Int)<=z.2.2.2.1/\z.1<=1152921504606846976) (fun z=>z.1)
         (fun z=>[(7,.c (.int .i64 (z.1:Nat))),(0,.ptr 1000000 0),(1,.c (.int .i64 (25-((g+1:Nat):Int)))),(4,.ptr 4 0),(5,.ptr 5 0)])
         (fun z=>[(4,[.c (.int .i64 0),.c (.int .i64 0),.c (.int .i64 0),.c (.str []),.own .exact 5 []]),(5,[.c (.int .i64 ((2:Nat):Int)),.c (.int .i64 0),.c (.int .i64 ((p.toNat:Nat):Int)),.c (.str []),.own (.tok 5000 0) 5 (aH z.2.1)]),(1000000,[.c (.str z.2.2.1),.c (.int .i64 z.2.2.2.1),.c (.int .i64 z.2.2.2.2)])]) (fun _=>[(5000,0)]) [4,5,1000000,5000] (V,[],de (s),k+1,0)
         ⟨cn,by show 0<=k+1;omega,by show k+1<=301;omega,fun _=>by show k+1<=300;omega,by show(0:Int)<=k+1;omega,by show V<=_;omega⟩ ⟨.inl rfl,.inl rfl,.inl rfl,.inl rfl,.inl rfl,trivial⟩ ⟨rfl,rfl,rfl,trivial⟩ ⟨rfl,trivial⟩ rfl rfl rfl ?_
        rintro⟨v,acc,P,k',e'⟩ ⟨W,NB,hk',QO,Pm,XZ⟩ S;simp only at W NB hk' QO Pm XZ;by_cases he:e'=0
        ·subst he;have N:=QO rfl;cases v with
         | zero =>
          rw[Gq,List.append_nil]at W;rw[W];clear S;exact dq
         | succ v =>
          have c7:decide (((v+1:Nat):Int)>0)=true:=aan bn;have hq:=hin P k' NB N;have Q:=Mn g P k' NB N;rw[Gr]at W;rcases hx:mP g P k' with ⟨⟨E,I,H,G,C⟩,s2,M,e2⟩
          rw[hx]at hq Q W;simp only at hq Q W;have e7:IntKind.i64.wrap (((v+1:Nat):Int)-1)=(v:Int):=by rw[gZ bn bn];omega
          repeat' (first|refine sz ?_|refine zr ?_ ?_|(refine zc ?_ ?_<;>intro h<;>first|(cases h;done)|rw[h]|skip)|refine jl ?_ (hq:=hq) (hok:=by exact⟨_,_,_,rfl,rfl,⟨_,_,rfl,rfl,⟨_,_,rfl,rfl,⟨_,_,rfl,rfl,rfl⟩⟩⟩,⟨_,_,rfl,rfl,rfl⟩⟩)|(refine uA rfl ?_ ?_<;>(try (show(_:Nat)*_<=_;dsimp only)))|((first|refine zt ?_|refine zu ?_ ?_)<;>intro h<;>(fail_if_success (cases h;done))<;>rw[h]))
          ·have h1:=bq acc;simp only[aaa,aab];omega
          ·have hap:aH acc++[aW (.mk E I H G C)]=aH (acc++[.mk E I H G C]):=(jL acc [_]).symm;refine AK.fY [(4,4),(5,5),(1000000,1000000)] [(5000,(0,some 5000))] (env':=[(7,.c (.int .i64 (v:Nat))),(0,.ptr 1000000 0),(1,.c (.int .i64 (25-((g+1:Nat):Int)))),(4,.ptr 4 0),(5,.ptr 5 0)])
            (bs':=[(4,[.c (.int .i64 0),.c (.int .i64 0),.c (.int .i64 0),.c (.str []),.own .exact 5 []]),(5,[.c (.int .i64 ((2:Nat):Int)),.c (.int .i64 0),.c (.int .i64 ((p.toNat:Nat):Int)),.c (.str []),.own (.tok 5000 0) 5 (aH (acc++[.mk E I H G C]))]),(1000000,[.c (.str s2),.c (.int .i64 M),.c (.int .i64 e2)])]) (ts':=[(5000,0)]) (us':=[4,5,1000000,5000])
            ⟨⟨_,rfl,.inl (congrArg (fun z=>AV.c (.int .i64 z)) e7)⟩,⟨_,rfl,⟨_,rfl,rfl⟩⟩,⟨_,rfl,.inl rfl⟩,⟨_,rfl,⟨_,rfl,rfl⟩⟩,⟨_,rfl,⟨_,rfl,rfl⟩⟩,trivial⟩ ⟨⟨_,_,rfl,rfl,⟨_,_,rfl,.inl rfl,⟨_,_,rfl,.inl rfl,⟨_,_,rfl,.inl rfl,⟨_,_,rfl,.inl rfl,⟨_,_,rfl,rfl,rfl⟩⟩⟩⟩⟩⟩,⟨_,_,rfl,rfl,⟨_,_,rfl,.inl rfl,⟨_,_,rfl,.inl rfl,⟨_,_,rfl,.inl rfl,⟨_,_,rfl,.inl rfl,⟨_,_,rfl,⟨_,rfl,.inr ⟨_,_,rfl,rfl,congrArg (AV.own (.tok 5000 1) 5) hap⟩⟩,rfl⟩⟩⟩⟩⟩⟩,⟨_,_,rfl,rfl,⟨_,_,rfl,.inl rfl,⟨_,_,rfl,.inl rfl,⟨_,_,rfl,.inl rfl,rfl⟩⟩⟩⟩,trivial⟩ rfl ?_
           refine S (v,acc++[.mk E I H G C],s2,M,e2) ⟨?_,by show 0<=M;omega,by show M<=301;omega,Q.2.2,EL,by show v<=_;omega⟩ (by show v<v+1;omega);show dZ (mP g) V (de (s)) (k+1) 0=_;rw[W];simp
        ·rw[KZ _ _ _ _ _ he,List.append_nil]at W;rw[W];have c8:(e'==0)=false:=by simpa using he
         clear S;rcases nX ((v:Int)>0)with ⟨c7,_⟩|⟨c7,_⟩
         all_goals
          exact dq
      ·rw[Cm _ _ _ _ _ (.inl (by rw[T];omega))];rw[T,O]at U;have D:=wJ [] (IntKind.i64.wrap (k+1)) 1 1 bn;rcases nX (cA (s)<0)with ⟨J,_⟩|⟨J,_⟩<;>rcases nX (cA (s)>0)with ⟨c6,_⟩|⟨c6,_⟩
       all_goals
        refine bz.tI Tryz.func151 rfl (fun args w=>Tryz.call151 args w) (Nat.le_of_ble_eq_true rfl) [(0,.ptr 1000000 0),(1,.c (.int .i64 (25-((g+1:Nat):Int))))] [(1000000,[.c (.str (c::p::s)),.c (.int .i64 k),.c (.int .i64 0)])] [] [1000000] rfl rfl fun β=>?_;have hf:=Tryz.func151
        repeat' (first|refine sz ?_|refine zr ?_ ?_|(refine zc ?_ ?_<;>intro h<;>first|(cases h;done)|rw[h]|skip)|refine jl ?_ (hq:=Y) (hok:=by exact⟨_,_,_,rfl,rfl,⟨_,_,rfl,rfl,⟨_,_,rfl,rfl,⟨_,_,rfl,rfl,rfl⟩⟩⟩,rfl⟩)|refine jl ?_ (hq:=Wx) (hok:=by exact⟨_,_,_,rfl,rfl,⟨_,_,rfl,rfl,⟨_,_,rfl,rfl,⟨_,_,rfl,rfl,rfl⟩⟩⟩,rfl⟩)|refine uC rfl K ?_|refine jl ?_ (hq:=U) (hok:=by exact⟨_,_,_,rfl,rfl,⟨_,_,rfl,rfl,⟨_,_,rfl,rfl,⟨_,_,rfl,rfl,rfl⟩⟩⟩,rfl⟩)|refine jl ?_ (hq:=D) (hok:=by exact⟨_,_,_,rfl,rfl,⟨_,_,rfl,rfl,⟨_,_,rfl,rfl,⟨_,_,rfl,rfl,rfl⟩⟩⟩,⟨_,_,rfl,rfl,rfl⟩⟩)|(refine uA rfl ?_ ?_<;>(try (show(_:Nat)*_<=_;dsimp only)))|((first|refine zt ?_|refine zu ?_ ?_)<;>intro h<;>(fail_if_success (cases h;done))<;>rw[h]))
        refine AK.eM (α:=Unit) (fun _=>True) (fun _=>0)
         (fun _=>[(7,.c (.int .i64 (cA (s)))),(0,.ptr 1000000 0),(1,.c (.int .i64 (25-((g+1:Nat):Int)))),(4,.ptr 4 0),(5,.ptr 5 0)])
         (fun _=>[(4,[.c (.int .i64 0),.c (.int .i64 0),.c (.int .i64 0),.c (.str []),.own .exact 5 []]),(5,[.c (.int .i64 ((2:Nat):Int)),.c (.int .i64 0),.c (.int .i64 ((p.toNat:Nat):Int)),.c (.str []),.own .exact 5 []]),(1000000,[.c (.str []),.c (.int .i64 (IntKind.i64.wrap (k+1))),.c (.int .i64 1)])]) (fun _=>[]) [4,5,1000000] ()
         trivial ⟨.inl rfl,.inl rfl,.inl rfl,.inl rfl,.inl rfl,trivial⟩ ⟨rfl,rfl,rfl,trivial⟩ trivial rfl rfl rfl ?_
        rintro _ _ S;clear S
        repeat' (first|refine sz ?_|refine zr ?_ ?_|(refine zc ?_ ?_<;>intro h<;>first|(cases h;done)|rw[h]|skip)|(refine uA rfl ?_ ?_<;>(try (show(_:Nat)*_<=_;dsimp only)))|((first|refine zt ?_|refine zu ?_ ?_)<;>intro h<;>(fail_if_success (cases h;done))<;>rw[h]))
        all_goals first|rfl|(rw[A])
   by_cases q3:q=3
   ·subst q3;rw[aag];have U:=oU (s) (IntKind.i64.wrap (k+1));rcases tD (s)with T|⟨T,O⟩
    ·have Iz:=zC T;unfold bM at Iz;rw[T]at U;by_cases B:cA (s)<0
     ·rw[Cm _ _ _ _ _ (.inr B)];have J:decide (cA (s)<0)=true:=aan B;have c6:decide (cA (s)>0)=false:=aaw bn;have D:=iN (de (s)) (IntKind.i64.wrap (k+1)) 1;refine bz.tI Tryz.func151 rfl (fun args w=>Tryz.call151 args w) (Nat.le_of_ble_eq_true rfl) [(0,.ptr 1000000 0),(1,.c (.int .i64 (25-((g+1:Nat):Int))))] [(1000000,[.c (.str (c::s)),.c (.int .i64 k),.c (.int .i64 0)])] [] [1000000] rfl rfl fun β=>?_;have hf:=Tryz.func151
      repeat' (first|refine sz ?_|refine zr ?_ ?_|(refine zc ?_ ?_<;>intro h<;>first|(cases h;done)|rw[h]|skip)|refine jl ?_ (hq:=Y) (hok:=by exact⟨_,_,_,rfl,rfl,⟨_,_,rfl,rfl,⟨_,_,rfl,rfl,⟨_,_,rfl,rfl,rfl⟩⟩⟩,rfl⟩)|refine jl ?_ (hq:=U) (hok:=by exact⟨_,_,_,rfl,rfl,⟨_,_,rfl,rfl,⟨_,_,rfl,rfl,⟨_,_,rfl,rfl,rfl⟩⟩⟩,rfl⟩)|refine jl ?_ (hq:=D) (hok:=by exact⟨_,_,_,rfl,rfl,⟨_,_,rfl,rfl,⟨_,_,rfl,rfl,⟨_,_,rfl,rfl,rfl⟩⟩⟩,⟨_,_,rfl,rfl,rfl⟩⟩)|(refine uA rfl ?_ ?_<;>(try (show(_:Nat)*_<=_;dsimp only)))|((first|refine zt ?_|refine zu ?_ ?_)<;>intro h<;>(fail_if_success (cases h;done))<;>rw[h]))
      refine AK.eM (α:=Unit) (fun _=>True) (fun _=>0)
       (fun _=>[(7,.c (.int .i64 (cA (s)))),(0,.ptr 1000000 0),(1,.c (.int .i64 (25-((g+1:Nat):Int)))),(4,.ptr 4 0),(5,.ptr 5 0)])
       (fun _=>[(4,[.c (.int .i64 0),.c (.int .i64 0),.c (.int .i64 0),.c (.str []),.own .exact 5 []]),(5,[.c (.int .i64 ((3:Nat):Int)),.c (.int .i64 0),.c (.int .i64 0),.c (.str []),.own .exact 5 []]),(1000000,[.c (.str []),.c (.int .i64 (IntKind.i64.wrap (k+1))),.c (.int .i64 1)])]) (fun _=>[]) [4,5,1000000] ()
       trivial ⟨.inl rfl,.inl rfl,.inl rfl,.inl rfl,.inl rfl,trivial⟩ ⟨rfl,rfl,rfl,trivial⟩ trivial rfl rfl rfl ?_
      rintro _ _ S;clear S
      repeat' (first|refine sz ?_|refine zr ?_ ?_|(refine zc ?_ ?_<;>intro h<;>first|(cases h;done)|rw[h]|skip)|(refine uA rfl ?_ ?_<;>(try (show(_:Nat)*_<=_;dsimp only)))|((first|refine zt ?_|refine zu ?_ ?_)<;>intro h<;>(fail_if_success (cases h;done))<;>rw[h]))
      all_goals first|rfl|(rw[A])
     ·rw[Pb _ _ _ _ _ (by rw[T];simp;omega)];have J:decide (cA (s)<0)=false:=aaw B;obtain⟨V,hv⟩:∃v:Nat,cA (s)=v:=⟨(cA (s)).toNat,bn⟩
      rw[hv]at U J;have u:(cA (s)).toNat=V:=by omega
      rw[u];refine bz.tI Tryz.func151 rfl (fun args w=>Tryz.call151 args w) (Nat.le_of_ble_eq_true rfl) [(0,.ptr 1000000 0),(1,.c (.int .i64 (25-((g+1:Nat):Int))))] [(1000000,[.c (.str (c::s)),.c (.int .i64 k),.c (.int .i64 0)])] [] [1000000] rfl rfl fun β=>?_;have hf:=Tryz.func151
      repeat' (first|refine sz ?_|refine zr ?_ ?_|(refine zc ?_ ?_<;>intro h<;>first|(cases h;done)|rw[h]|skip)|refine jl ?_ (hq:=Y) (hok:=by exact⟨_,_,_,rfl,rfl,⟨_,_,rfl,rfl,⟨_,_,rfl,rfl,⟨_,_,rfl,rfl,rfl⟩⟩⟩,rfl⟩)|refine jl ?_ (hq:=U) (hok:=by exact⟨_,_,_,rfl,rfl,⟨_,_,rfl,rfl,⟨_,_,rfl,rfl,⟨_,_,rfl,rfl,rfl⟩⟩⟩,rfl⟩)|(refine uA rfl ?_ ?_<;>(try (show(_:Nat)*_<=_;dsimp only)))|((first|refine zt ?_|refine zu ?_ ?_)<;>intro h<;>(fail_if_success (cases h;done))<;>rw[h]))
      refine AK.fY [(4,4),(5,5),(1000000,1000000)] [(5000,(0,none))] (env':=[(7,.c (.int .i64 (V:Nat))),(0,.ptr 1000000 0),(1,.c (.int .i64 (25-((g+1:Nat):Int)))),(4,.ptr 4 0),(5,.ptr 5 0)])
       (bs':=[(4,[.c (.int .i64 0),.c (.int .i64 0),.c (.int .i64 0),.c (.str []),.own .exact 5 []]),(5,[.c (.int .i64 ((3:Nat):Int)),.c (.int .i64 0),.c (.int .i64 0),.c (.str []),.own (.tok 5000 0) 5 []]),(1000000,[.c (.str (de (s))),.c (.int .i64 (k+1)),.c (.int .i64 0)])]) (ts':=[(5000,0)]) (us':=[4,5,1000000,5000])
       ⟨⟨_,rfl,.inl rfl⟩,⟨_,rfl,⟨_,rfl,rfl⟩⟩,⟨_,rfl,.inl rfl⟩,⟨_,rfl,⟨_,rfl,rfl⟩⟩,⟨_,rfl,⟨_,rfl,rfl⟩⟩,trivial⟩ ⟨⟨_,_,rfl,rfl,⟨_,_,rfl,.inl rfl,⟨_,_,rfl,.inl rfl,⟨_,_,rfl,.inl rfl,⟨_,_,rfl,.inl rfl,⟨_,_,rfl,rfl,rfl⟩⟩⟩⟩⟩⟩,⟨_,_,rfl,rfl,⟨_,_,rfl,.inl rfl,⟨_,_,rfl,.inl rfl,⟨_,_,rfl,.inl rfl,⟨_,_,rfl,.inl rfl,⟨_,_,rfl,⟨_,rfl,.inl ⟨rfl,_,rfl,.inr rfl⟩⟩,rfl⟩⟩⟩⟩⟩⟩,⟨_,_,rfl,rfl,⟨_,_,rfl,.inl rfl,⟨_,_,rfl,.inl (congrArg (fun z=>AV.c (.int .i64 z)) A),⟨_,_,rfl,.inl rfl,rfl⟩⟩⟩⟩,trivial⟩ rfl ?_
      refine AK.eM (α:=Nat×List Nd×List UInt8×Int×Int) (fun z=>dZ (mP g) V (de (s)) (k+1) 0=(z.2.1++(dZ (mP g) z.1 z.2.2.1 z.2.2.2.1 z.2.2.2.2).1,(dZ (mP g) z.1 z.2.2.1 z.2.2.2.1 z.2.2.2.2).2)/\0<=z.2.2.2.1/\z.2.2.2.1<=301/\(z.2.2.2.2=0->z.2.2.2.1<=300)/\(z.2.1.length:Int)<=z.2.2.2.1/\z.1<=1152921504606846976) (fun z=>z.1)
       (fun z=>[(7,.c (.int .i64 (z.1:Nat))),(0,.ptr 1000000 0),(1,.c (.int .i64 (25-((g+1:Nat):Int)))),(4,.ptr 4 0),(5,.ptr 5 0)])
       (fun z=>[(4,[.c (.int .i64 0),.c (.int .i64 0),.c (.int .i64 0),.c (.str []),.own .exact 5 []]),(5,[.c (.int .i64 ((3:Nat):Int)),.c (.int .i64 0),.c (.int .i64 0),.c (.str []),.own (.tok 5000 0) 5 (aH z.2.1)]),(1000000,[.c (.str z.2.2.1),.c (.int .i64 z.2.2.2.1),.c (.int .i64 z.2.2.2.2)])]) (fun _=>[(5000,0)]) [4,5,1000000,5000] (V,[],de (s),k+1,0)
       ⟨cn,by show 0<=k+1;omega,by show k+1<=301;omega,fun _=>by show k+1<=300;omega,by show(0:Int)<=k+1;omega,by show V<=_;omega⟩ ⟨.inl rfl,.inl rfl,.inl rfl,.inl rfl,.inl rfl,trivial⟩ ⟨rfl,rfl,rfl,trivial⟩ ⟨rfl,trivial⟩ rfl rfl rfl ?_
      rintro⟨v,acc,P,k',e'⟩ ⟨W,NB,hk',QO,Pm,XZ⟩ S;simp only at W NB hk' QO Pm XZ;by_cases he:e'=0
      ·subst he;have N:=QO rfl;cases v with
       | zero =>
        rw[Gq,List.append_nil]at W;rw[W];clear S;exact dq
       | succ v =>
        have c7:decide (((v+1:Nat):Int)>0)=true:=aan bn;have hq:=hin P k' NB N;have Q:=Mn g P k' NB N;rw[Gr]at W;rcases hx:mP g P k' with ⟨⟨E,I,H,G,C⟩,s2,M,e2⟩
        rw[hx]at hq Q W;simp only at hq Q W;have e7:IntKind.i64.wrap (((v+1:Nat):Int)-1)=(v:Int):=by rw[gZ bn bn];omega
        repeat' (first|refine sz ?_|refine zr ?_ ?_|(refine zc ?_ ?_<;>intro h<;>first|(cases h;done)|rw[h]|skip)|refine jl ?_ (hq:=hq) (hok:=by exact⟨_,_,_,rfl,rfl,⟨_,_,rfl,rfl,⟨_,_,rfl,rfl,⟨_,_,rfl,rfl,rfl⟩⟩⟩,⟨_,_,rfl,rfl,rfl⟩⟩)|(refine uA rfl ?_ ?_<;>(try (show(_:Nat)*_<=_;dsimp only)))|((first|refine zt ?_|refine zu ?_ ?_)<;>intro h<;>(fail_if_success (cases h;done))<;>rw[h]))
        ·have h1:=bq acc;simp only[aaa,aab];omega
        ·have hap:aH acc++[aW (.mk E I H G C)]=aH (acc++[.mk E I H G C]):=(jL acc [_]).symm;refine AK.fY [(4,4),(5,5),(1000000,1000000)] [(5000,(0,some 5000))] (env':=[(7,.c (.int .i64 (v:Nat))),(0,.ptr 1000000 0),(1,.c (.int .i64 (25-((g+1:Nat):Int)))),(4,.ptr 4 0),(5,.ptr 5 0)])
          (bs':=[(4,[.c (.int .i64 0),.c (.int .i64 0),.c (.int .i64 0),.c (.str []),.own .exact 5 []]),(5,[.c (.int .i64 ((3:Nat):Int)),.c (.int .i64 0),.c (.int .i64 0),.c (.str []),.own (.tok 5000 0) 5 (aH (acc++[.mk E I H G C]))]),(1000000,[.c (.str s2),.c (.int .i64 M),.c (.int .i64 e2)])]) (ts':=[(5000,0)]) (us':=[4,5,1000000,5000])
          ⟨⟨_,rfl,.inl (congrArg (fun z=>AV.c (.int .i64 z)) e7)⟩,⟨_,rfl,⟨_,rfl,rfl⟩⟩,⟨_,rfl,.inl rfl⟩,⟨_,rfl,⟨_,rfl,rfl⟩⟩,⟨_,rfl,⟨_,rfl,rfl⟩⟩,trivial⟩ ⟨⟨_,_,rfl,rfl,⟨_,_,rfl,.inl rfl,⟨_,_,rfl,.inl rfl,⟨_,_,rfl,.inl rfl,⟨_,_,rfl,.inl rfl,⟨_,_,rfl,rfl,rfl⟩⟩⟩⟩⟩⟩,⟨_,_,rfl,rfl,⟨_,_,rfl,.inl rfl,⟨_,_,rfl,.inl rfl,⟨_,_,rfl,.inl rfl,⟨_,_,rfl,.inl rfl,⟨_,_,rfl,⟨_,rfl,.inr ⟨_,_,rfl,rfl,congrArg (AV.own (.tok 5000 1) 5) hap⟩⟩,rfl⟩⟩⟩⟩⟩⟩,⟨_,_,rfl,rfl,⟨_,_,rfl,.inl rfl,⟨_,_,rfl,.inl rfl,⟨_,_,rfl,.inl rfl,rfl⟩⟩⟩⟩,trivial⟩ rfl ?_
         refine S (v,acc++[.mk E I H G C],s2,M,e2) ⟨?_,by show 0<=M;omega,by show M<=301;omega,Q.2.2,EL,by show v<=_;omega⟩ (by show v<v+1;omega);show dZ (mP g) V (de (s)) (k+1) 0=_;rw[W];simp
      ·rw[KZ _ _ _ _ _ he,List.append_nil]at W;rw[W];have c8:(e'==0)=false:=by simpa using he
       clear S;rcases nX ((v:Int)>0)with ⟨c7,_⟩|⟨c7,_⟩
       all_goals
        exact dq
    ·rw[Cm _ _ _ _ _ (.inl (by rw[T];omega))];rw[T,O]at U;have D:=wJ [] (IntKind.i64.wrap (k+1)) 1 1 bn;rcases nX (cA (s)<0)with ⟨J,_⟩|⟨J,_⟩<;>rcases nX (cA (s)>0)with ⟨c6,_⟩|⟨c6,_⟩
     all_goals
      refine bz.tI Tryz.func151 rfl (fun args w=>Tryz.call151 args w) (Nat.le_of_ble_eq_true rfl) [(0,.ptr 1000000 0),(1,.c (.int .i64 (25-((g+1:Nat):Int))))] [(1000000,[.c (.str (c::s)),.c (.int .i64 k),.c (.int .i64 0)])] [] [1000000] rfl rfl fun β=>?_;have hf:=Tryz.func151
      repeat' (first|refine sz ?_|refine zr ?_ ?_|(refine zc ?_ ?_<;>intro h<;>first|(cases h;done)|rw[h]|skip)|refine jl ?_ (hq:=Y) (hok:=by exact⟨_,_,_,rfl,rfl,⟨_,_,rfl,rfl,⟨_,_,rfl,rfl,⟨_,_,rfl,rfl,rfl⟩⟩⟩,rfl⟩)|refine jl ?_ (hq:=U) (hok:=by exact⟨_,_,_,rfl,rfl,⟨_,_,rfl,rfl,⟨_,_,rfl,rfl,⟨_,_,rfl,rfl,rfl⟩⟩⟩,rfl⟩)|refine jl ?_ (hq:=D) (hok:=by exact⟨_,_,_,rfl,rfl,⟨_,_,rfl,rfl,⟨_,_,rfl,rfl,⟨_,_,rfl,rfl,rfl⟩⟩⟩,⟨_,_,rfl,rfl,rfl⟩⟩)|(refine uA rfl ?_ ?_<;>(try (show(_:Nat)*_<=_;dsimp only)))|((first|refine zt ?_|refine zu ?_ ?_)<;>intro h<;>(fail_if_success (cases h;done))<;>rw[h]))
      refine AK.eM (α:=Unit) (fun _=>True) (fun _=>0)
       (fun _=>[(7,.c (.int .i64 (cA (s)))),(0,.ptr 1000000 0),(1,.c (.int .i64 (25-((g+1:Nat):Int)))),(4,.ptr 4 0),(5,.ptr 5 0)])
       (fun _=>[(4,[.c (.int .i64 0),.c (.int .i64 0),.c (.int .i64 0),.c (.str []),.own .exact 5 []]),(5,[.c (.int .i64 ((3:Nat):Int)),.c (.int .i64 0),.c (.int .i64 0),.c (.str []),.own .exact 5 []]),(1000000,[.c (.str []),.c (.int .i64 (IntKind.i64.wrap (k+1))),.c (.int .i64 1)])]) (fun _=>[]) [4,5,1000000] ()
       trivial ⟨.inl rfl,.inl rfl,.inl rfl,.inl rfl,.inl rfl,trivial⟩ ⟨rfl,rfl,rfl,trivial⟩ trivial rfl rfl rfl ?_
      rintro _ _ S;clear S
      repeat' (first|refine sz ?_|refine zr ?_ ?_|(refine zc ?_ ?_<;>intro h<;>first|(cases h;done)|rw[h]|skip)|(refine uA rfl ?_ ?_<;>(try (show(_:Nat)*_<=_;dsimp only)))|((first|refine zt ?_|refine zu ?_ ?_)<;>intro h<;>(fail_if_success (cases h;done))<;>rw[h]))
      all_goals first|rfl|(rw[A])
   ·rw[VG _ _ _ _ bn];have f0:((q:Int)==0)=false:=by simpa using q0
    have f1:((q:Int)==1)=false:=by simp;omega
    have f2:((q:Int)==2)=false:=by simp;omega
    have f3:((q:Int)==3)=false:=by simp;omega
    have h3:=tE (IntKind.i64.wrap (k+1)) 1 bn;have D:=iN s (IntKind.i64.wrap (k+1)) 1;refine bz.tI Tryz.func151 rfl (fun args w=>Tryz.call151 args w) (Nat.le_of_ble_eq_true rfl) [(0,.ptr 1000000 0),(1,.c (.int .i64 (25-((g+1:Nat):Int))))] [(1000000,[.c (.str (c::s)),.c (.int .i64 k),.c (.int .i64 0)])] [] [1000000] rfl rfl fun β=>?_;have hf:=Tryz.func151
    repeat' (first|refine sz ?_|refine zr ?_ ?_|(refine zc ?_ ?_<;>intro h<;>first|(cases h;done)|rw[h]|skip)|refine jl ?_ (hq:=Y) (hok:=by exact⟨_,_,_,rfl,rfl,⟨_,_,rfl,rfl,⟨_,_,rfl,rfl,⟨_,_,rfl,rfl,rfl⟩⟩⟩,rfl⟩)|refine jl ?_ (hq:=h3) (hok:=by exact⟨_,_,_,rfl,rfl,⟨_,_,rfl,rfl,⟨_,_,rfl,rfl,⟨_,_,rfl,rfl,rfl⟩⟩⟩,rfl⟩)|refine jl ?_ (hq:=D) (hok:=by exact⟨_,_,_,rfl,rfl,⟨_,_,rfl,rfl,⟨_,_,rfl,rfl,⟨_,_,rfl,rfl,rfl⟩⟩⟩,⟨_,_,rfl,rfl,rfl⟩⟩)|(refine uA rfl ?_ ?_<;>(try (show(_:Nat)*_<=_;dsimp only)))|((first|refine zt ?_|refine zu ?_ ?_)<;>intro h<;>(fail_if_success (cases h;done))<;>rw[h]))
    refine AK.eM (α:=Unit) (fun _=>True) (fun _=>0)
     (fun _=>[(7,.c (.int .i64 0)),(0,.ptr 1000000 0),(1,.c (.int .i64 (25-((g+1:Nat):Int)))),(4,.ptr 4 0),(5,.ptr 5 0)])
     (fun _=>[(4,[.c (.int .i64 0),.c (.int .i64 0),.c (.int .i64 0),.c (.str []),.own .exact 5 []]),(5,[.c (.int .i64 (q:Int)),.c (.int .i64 0),.c (.int .i64 0),.c (.str []),.own .exact 5 []]),(1000000,[.c (.str []),.c (.int .i64 (IntKind.i64.wrap (k+1))),.c (.int .i64 1)])]) (fun _=>[]) [4,5,1000000] ()
     trivial ⟨.inl rfl,.inl rfl,.inl rfl,.inl rfl,.inl rfl,trivial⟩ ⟨rfl,rfl,rfl,trivial⟩ trivial rfl rfl rfl ?_
    rintro _ _ S;clear S
    repeat' (first|refine sz ?_|refine zr ?_ ?_|(refine zc ?_ ?_<;>intro h<;>first|(cases h;done)|rw[h]|skip)|(refine uA rfl ?_ ?_<;>(try (show(_:Nat)*_<=_;dsimp only)))|((first|refine zt ?_|refine zu ?_ ?_)<;>intro h<;>(fail_if_success (cases h;done))<;>rw[h]))
    all_goals first|rfl|(rw[A])
attribute [local irreducible] eT
theorem NC (s:List UInt8):eT s=match fj 24 s 300 with
 | .no e=>(sE,e)
 | .ok n r _=>if r=[]then(n,0)else(sE,1):=by unfold eT;rfl
theorem GO (s:List UInt8):ah 143 [.str s] (.gB [aW (eT s).1,.int .i64 (eT s).2]):=by
 have h1:=zD 24 s 0 bn bn bn;have C:=J1 24 s 300 bn;rw[show(300:Int)-((300:Nat):Int)=0 from rfl]at C;rw[show(25:Int)-((24:Nat):Int)=1 from rfl]at h1;rw[NC];cases I:fj 24 s 300 with
 | no e =>
  rw[I]at C;simp only[rD]at C;rcases O:mP 24 s 0 with ⟨⟨E,U,Y,W,J⟩,s2,k2,e2⟩
  rw[O]at h1 C;simp only at h1 C;obtain⟨rfl,rfl,P⟩:=C;have V:(e2==0)=false:=by simpa using P
  have D:(e2 != 0)=true:=by simpa using P
  refine qn Tryz.func143 Tryz.call143 fun β hf=>?_;exact dq
 | ok n r l =>
  rw[I]at C;simp only[rD]at C;rw[C.1]at h1;simp only at h1;obtain⟨E,U,Y,W,J⟩:=n;cases r with
  | nil =>
   refine qn Tryz.func143 Tryz.call143 fun β hf=>?_;exact dq
  | cons c r =>
   have h2:=iN (c::r) (300-(l:Int)) 1;refine qn Tryz.func143 Tryz.call143 fun β hf=>?_;exact dq
end Go.Proofs
