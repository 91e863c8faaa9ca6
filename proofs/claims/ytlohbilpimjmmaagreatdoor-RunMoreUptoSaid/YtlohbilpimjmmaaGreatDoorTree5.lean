/- What node of package tree's reader and Decode answer. -/
import Derived.Test.YtlohbilpimjmmaaGreatDoorTree4
set_option maxHeartbeats 0
set_option linter.unusedVariables false
set_option linter.unusedSimpArgs false
set_option maxRecDepth 100000
namespace Go.Proofs
open Go.cq
theorem Ua (s:List UInt8) (k:Int):mU 0 s k=⟨sM,[],k+1,4⟩:=rfl
theorem Ub (g:Nat) (s:List UInt8) (k:Int) (h:k+1>300):mU (g+1) s k=⟨sM,[],k+1,4⟩:=by simp only[mU,if_pos h]
theorem VZ (g:Nat) (k:Int) (h:¬(k+1>300)):mU (g+1) [] k=⟨sM,[],k+1,1⟩:=by simp only[mU,if_neg h]
theorem Uc (g:Nat) (c:UInt8) (s:List UInt8) (k:Int) (h:¬(k+1>300)):mU (g+1) (c::s) k=iB (mU g) c.toNat s (k+1):=by simp only[mU,if_neg h]
theorem aap (f:List UInt8->Int->RX) (s:List UInt8) (k:Int):iB f 0 s k=⟨.mk 0 (cu s) 0 [] [],cZ s,k,jg s⟩:=rfl
theorem QL (f:List UInt8->Int->RX) (s:List UInt8) (k:Int) (h:cu s<0\/cu s>200\/cu s>(cZ s).length):iB f 1 s k=⟨.mk 1 0 0 [] [],[],k,1⟩:=by simp only[iB,if_pos h];rfl
theorem NQ (f:List UInt8->Int->RX) (s:List UInt8) (k:Int) (h:¬(cu s<0\/cu s>200\/cu s>(cZ s).length)):iB f 1 s k=⟨.mk 1 0 0 ((cZ s).take (cu s).toNat) [],(cZ s).drop (cu s).toNat,k,jg s⟩:=by simp only[iB,if_neg h];rfl
theorem QM (f:List UInt8->Int->RX) (k:Int):iB f 2 [] k=⟨.mk 2 0 0 [] [],[],k,1⟩:=rfl
theorem NR (f:List UInt8->Int->RX) (p:UInt8) (s:List UInt8) (k:Int) (h:qO p.toNat=true):iB f 2 (p::s) k=iZ f 2 p.toNat s k:=by simp[iB,h]
theorem QN (f:List UInt8->Int->RX) (p:UInt8) (s:List UInt8) (k:Int) (h:qO p.toNat=false):iB f 2 (p::s) k=⟨.mk 2 0 p.toNat [] [],[],k,1⟩:=by simp[iB,h]
theorem aaq (f:List UInt8->Int->RX) (s:List UInt8) (k:Int):iB f 3 s k=iZ f 3 0 s k:=rfl
theorem V0 (f:List UInt8->Int->RX) (c:Nat) (s:List UInt8) (k:Int) (h:c>3):iB f c s k=⟨.mk c 0 0 [] [],[],k,1⟩:=by
 simp only[iB];rw[if_neg bn,if_neg bn,if_neg bn,if_neg bn]
theorem Cr (f:List UInt8->Int->RX) (kind p:Int) (s:List UInt8) (k:Int) (h:jg s≠0\/cu s<0):iZ f kind p s k=⟨.mk kind 0 p [] [],[],k,1⟩:=by simp only[iZ,if_pos h]
theorem Pu (f:List UInt8->Int->RX) (kind p:Int) (s:List UInt8) (k:Int) (h:¬(jg s≠0\/cu s<0)):iZ f kind p s k=⟨.mk kind 0 p [] (dY f (cu s).toNat (cZ s) k 0).1,(dY f (cu s).toNat (cZ s) k 0).2.1,(dY f (cu s).toNat (cZ s) k 0).2.2.1,(dY f (cu s).toNat (cZ s) k 0).2.2.2⟩:=by simp only[iZ,if_neg h]
theorem GF (f:List UInt8->Int->RX) (s:List UInt8) (k e:Int):dY f 0 s k e=([],s,k,e):=rfl
theorem Lh (f:List UInt8->Int->RX) (v:Nat) (s:List UInt8) (k e:Int) (h:e≠0):dY f v s k e=([],s,k,e):=by
 cases v with
 | zero=>rfl
 | succ v=>simp only[dY,if_pos h]
theorem GG (f:List UInt8->Int->RX) (v:Nat) (s:List UInt8) (k:Int):dY f (v+1) s k 0=((f s k).n::(dY f v (f s k).s (f s k).k (f s k).e).1,(dY f v (f s k).s (f s k).k (f s k).e).2):=by simp[dY]
theorem zL {s:List UInt8} (h:jg s=0) : -bP<=cu s/\cu s<=bP:=by
 cases Y:eU s with
 | none=>rw[(jI Y).2]at h;simp at h
 | some x =>
  obtain⟨n,r⟩:=x;rw[(sE Y).1];exact(nh Y).2
theorem tL (s:List UInt8):jg s=0\/jg s=1/\cZ s=[]:=by
 cases Y:eU s with
 | none=>right;exact⟨(jI Y).2,(jI Y).1⟩
 | some x=>left;exact(sE Y).2.2
theorem tM (k e:Int) (P:e≠0):fG 157 [.box [.c (.str []),.c (.int .i64 k),.c (.int .i64 e)]] [.c (.int .i64 0)] [(0,[.c (.str []),.c (.int .i64 k),.c (.int .i64 e)])]:=by
 have h1:=Lg k e P;refine bt.tQ Tryz.func157 rfl (fun args w=>Tryz.call157 args w) (Nat.le_of_ble_eq_true rfl) [(0,.ptr 1000000 0)] [(1000000,[.c (.str []),.c (.int .i64 k),.c (.int .i64 e)])] [] [1000000] rfl rfl fun β=>?_;have hf:=Tryz.func157
 repeat' (first|refine sz ?_|refine zr ?_ ?_|(refine zc ?_ ?_<;>intro h<;>first|(cases h;done)|rw[h]|skip)|refine lE ?_ (hq:=h1)|((first|refine zt ?_|refine zu ?_ ?_)<;>intro h<;>(fail_if_success (cases h;done))<;>rw[h]))
 refine AK.eK (α:=Unit) (fun _=>True) (fun _=>0)
  (fun _=>[(3,.c (.int .i64 0)),(4,.c (.bool (decide ((0:Nat)/64%2=1)))),(5,.c (.int .i64 ((0%64:Nat):Int))),(0,.ptr 1000000 0)])
  (fun _=>[(1000000,[.c (.str []),.c (.int .i64 k),.c (.int .i64 e)])]) (fun _=>[]) [1000000] ()
  trivial ⟨.inl rfl,.inl (congrArg (fun z=>some (AV.c (CV.bool z))) (Q7 (c:=0) bn)),.inl (congrArg (fun z=>some (AV.c (CV.int .i64 z))) (I2 (a:=0) bn)),.inl rfl,trivial⟩ ⟨rfl,trivial⟩ trivial rfl rfl rfl ?_
 rintro _ _ S;clear S;exact dq
attribute [local irreducible] AK ai bh bt mU iB iZ dY cu cZ jg qO
theorem zM:∀(g:Nat) (s:List UInt8) (k:Int),g<=24->0<=k->k<=300 ->
  fG 151 [.box [.c (.str s),.c (.int .i64 k),.c (.int .i64 0)],.v (.c (.int .i64 (25-(g:Int))))] [.c (aX (mU g s k).n)] [(0,[.c (.str (mU g s k).s),.c (.int .i64 (mU g s k).k),.c (.int .i64 (mU g s k).e)])]
 | 0,s,k,hg,wZ,hk=>by
  rw[Ua];have C:IntKind.i64.wrap (k+1)=k+1:=gW bn bn;have h1:=iN s (k+1) 4;rw[<- C]at h1;refine bt.tQ Tryz.func151 rfl (fun args w=>Tryz.call151 args w) (Nat.le_of_ble_eq_true rfl) [(0,.ptr 1000000 0),(1,.c (.int .i64 25))] [(1000000,[.c (.str s),.c (.int .i64 k),.c (.int .i64 0)])] [] [1000000] rfl rfl fun β=>?_;have hf:=Tryz.func151
  repeat' (first|refine sz ?_|refine zr ?_ ?_|(refine zc ?_ ?_<;>intro h<;>first|(cases h;done)|rw[h]|skip)|refine lE ?_ (hq:=h1) (hok:=by exact⟨_,_,_,rfl,rfl,⟨_,_,rfl,rfl,⟨_,_,rfl,rfl,⟨_,_,rfl,rfl,rfl⟩⟩⟩,⟨_,_,rfl,rfl,rfl⟩⟩)|(refine uA rfl ?_ ?_<;>(try (show(_:Nat)*_<=_;dsimp only)))|((first|refine zt ?_|refine zu ?_ ?_)<;>intro h<;>(fail_if_success (cases h;done))<;>rw[h]))
  all_goals first|rfl|(rw[C])
 | g+1,s,k,hg,wZ,hk=>by
  have C:IntKind.i64.wrap (k+1)=k+1:=gW bn bn;have hin:∀(P:List UInt8) (k':Int),0<=k'->k'<=300->fG 151 [.box [.c (.str P),.c (.int .i64 k'),.c (.int .i64 0)],.v (.c (.int .i64 (IntKind.i64.wrap (25-((g+1:Nat):Int)+1))))] [.c (aX (mU g P k').n)] [(0,[.c (.str (mU g P k').s),.c (.int .i64 (mU g P k').k),.c (.int .i64 (mU g P k').e)])]:=by
   intro P k' h0 h1;rw[gW bn bn,show(25-((g+1:Nat):Int)+1)=25-(g:Int)from by omega];exact zM g P k' bn h0 h1
  have c0:decide ((25-((g+1:Nat):Int))>24)=false:=aan bn;by_cases Li:k+1>300
  ·rw[Ub _ _ _ Li];have c1:decide (IntKind.i64.wrap (k+1)>300)=true:=aam (by rw[C];exact Li);have h1:=iN s (IntKind.i64.wrap (k+1)) 4;refine bt.tQ Tryz.func151 rfl (fun args w=>Tryz.call151 args w) (Nat.le_of_ble_eq_true rfl) [(0,.ptr 1000000 0),(1,.c (.int .i64 (25-((g+1:Nat):Int))))] [(1000000,[.c (.str s),.c (.int .i64 k),.c (.int .i64 0)])] [] [1000000] rfl rfl fun β=>?_;have hf:=Tryz.func151
   repeat' (first|refine sz ?_|refine zr ?_ ?_|(refine zc ?_ ?_<;>intro h<;>first|(cases h;done)|rw[h]|skip)|refine lE ?_ (hq:=h1) (hok:=by exact⟨_,_,_,rfl,rfl,⟨_,_,rfl,rfl,⟨_,_,rfl,rfl,⟨_,_,rfl,rfl,rfl⟩⟩⟩,⟨_,_,rfl,rfl,rfl⟩⟩)|(refine uA rfl ?_ ?_<;>(try (show(_:Nat)*_<=_;dsimp only)))|((first|refine zt ?_|refine zu ?_ ?_)<;>intro h<;>(fail_if_success (cases h;done))<;>rw[h]))
   all_goals first|rfl|(rw[C])
  have c1:decide (IntKind.i64.wrap (k+1)>300)=false:=aan (by rw[C];exact Li);cases s with
  | nil =>
   rw[VZ _ _ Li];have h1:=zK (IntKind.i64.wrap (k+1));have h2:=tM (IntKind.i64.wrap (k+1)) 1 bn;refine bt.tQ Tryz.func151 rfl (fun args w=>Tryz.call151 args w) (Nat.le_of_ble_eq_true rfl) [(0,.ptr 1000000 0),(1,.c (.int .i64 (25-((g+1:Nat):Int))))] [(1000000,[.c (.str []),.c (.int .i64 k),.c (.int .i64 0)])] [] [1000000] rfl rfl fun β=>?_;have hf:=Tryz.func151
   repeat' (first|refine sz ?_|refine zr ?_ ?_|(refine zc ?_ ?_<;>intro h<;>first|(cases h;done)|rw[h]|skip)|refine lE ?_ (hq:=h1) (hok:=by exact⟨_,_,_,rfl,rfl,⟨_,_,rfl,rfl,⟨_,_,rfl,rfl,⟨_,_,rfl,rfl,rfl⟩⟩⟩,rfl⟩)|refine lE ?_ (hq:=h2) (hok:=by exact⟨_,_,_,rfl,rfl,⟨_,_,rfl,rfl,⟨_,_,rfl,rfl,⟨_,_,rfl,rfl,rfl⟩⟩⟩,rfl⟩)|(refine uA rfl ?_ ?_<;>(try (show(_:Nat)*_<=_;dsimp only)))|((first|refine zt ?_|refine zu ?_ ?_)<;>intro h<;>(fail_if_success (cases h;done))<;>rw[h]))
   all_goals first|rfl|(rw[C])
  | cons c s =>
   rw[Uc _ _ _ _ Li];have Y:=wS c s (IntKind.i64.wrap (k+1)) 0;have hcb:=c.toNat_lt;generalize hq:c.toNat=q at Y hcb;by_cases q0:q=0
   ·subst q0;rw[aap];have W:=oX s (IntKind.i64.wrap (k+1));refine bt.tQ Tryz.func151 rfl (fun args w=>Tryz.call151 args w) (Nat.le_of_ble_eq_true rfl) [(0,.ptr 1000000 0),(1,.c (.int .i64 (25-((g+1:Nat):Int))))] [(1000000,[.c (.str (c::s)),.c (.int .i64 k),.c (.int .i64 0)])] [] [1000000] rfl rfl fun β=>?_;have hf:=Tryz.func151
    repeat' (first|refine sz ?_|refine zr ?_ ?_|(refine zc ?_ ?_<;>intro h<;>first|(cases h;done)|rw[h]|skip)|refine lE ?_ (hq:=Y) (hok:=by exact⟨_,_,_,rfl,rfl,⟨_,_,rfl,rfl,⟨_,_,rfl,rfl,⟨_,_,rfl,rfl,rfl⟩⟩⟩,rfl⟩)|refine lE ?_ (hq:=W) (hok:=by exact⟨_,_,_,rfl,rfl,⟨_,_,rfl,rfl,⟨_,_,rfl,rfl,⟨_,_,rfl,rfl,rfl⟩⟩⟩,rfl⟩)|(refine uA rfl ?_ ?_<;>(try (show(_:Nat)*_<=_;dsimp only)))|((first|refine zt ?_|refine zu ?_ ?_)<;>intro h<;>(fail_if_success (cases h;done))<;>rw[h]))
    all_goals first|rfl|(rw[C])
   by_cases q1:q=1
   ·subst q1;have W:=oX s (IntKind.i64.wrap (k+1));by_cases aar:cu s<0\/cu s>200\/cu s>(cZ s).length
    ·rw[QL _ _ _ aar];have U:fG 152 [.box [.c (.str (cZ s)),.c (.int .i64 (IntKind.i64.wrap (k+1))),.c (.int .i64 (jg s))],.v (.c (.int .i64 1))] [] [(0,[.c (.str []),.c (.int .i64 (IntKind.i64.wrap (k+1))),.c (.int .i64 1)])]:=by
      rcases tL s with J|⟨J,Q⟩
      ·rw[J];exact iN _ _ _
      ·rw[J,Q];exact wR _ _ _ _ bn
     rcases n9 (cu s<0)with ⟨d1,b1⟩|⟨d1,b1⟩<;>rcases n9 (cu s>200)with ⟨d2,b2⟩|⟨d2,b2⟩<;>rcases n9 (cu s>(cZ s).length)with ⟨d3,b3⟩|⟨d3,b3⟩
     all_goals first|(exfalso;omega)|skip
     all_goals
      refine bt.tQ Tryz.func151 rfl (fun args w=>Tryz.call151 args w) (Nat.le_of_ble_eq_true rfl) [(0,.ptr 1000000 0),(1,.c (.int .i64 (25-((g+1:Nat):Int))))] [(1000000,[.c (.str (c::s)),.c (.int .i64 k),.c (.int .i64 0)])] [] [1000000] rfl rfl fun β=>?_;have hf:=Tryz.func151
      repeat' (first|refine sz ?_|refine zr ?_ ?_|(refine zc ?_ ?_<;>intro h<;>first|(cases h;done)|rw[h]|skip)|refine lE ?_ (hq:=Y) (hok:=by exact⟨_,_,_,rfl,rfl,⟨_,_,rfl,rfl,⟨_,_,rfl,rfl,⟨_,_,rfl,rfl,rfl⟩⟩⟩,rfl⟩)|refine lE ?_ (hq:=W) (hok:=by exact⟨_,_,_,rfl,rfl,⟨_,_,rfl,rfl,⟨_,_,rfl,rfl,⟨_,_,rfl,rfl,rfl⟩⟩⟩,rfl⟩)|refine lE ?_ (hq:=U) (hok:=by exact⟨_,_,_,rfl,rfl,⟨_,_,rfl,rfl,⟨_,_,rfl,rfl,⟨_,_,rfl,rfl,rfl⟩⟩⟩,⟨_,_,rfl,rfl,rfl⟩⟩)|(refine uA rfl ?_ ?_<;>(try (show(_:Nat)*_<=_;dsimp only)))|((first|refine zt ?_|refine zu ?_ ?_)<;>intro h<;>(fail_if_success (cases h;done))<;>rw[h]))
      all_goals first|rfl|(rw[C])
    ·rw[NQ _ _ _ aar];have d1:decide (cu s<0)=false:=aan bn;have d2:decide (cu s>200)=false:=aan bn;have d3:decide (cu s>(cZ s).length)=false:=aan bn;obtain⟨v,hv⟩:∃v:Nat,cu s=v:=⟨(cu s).toNat,bn⟩
     have hvl:v<=(cZ s).length:=by omega
     rw[hv]at W d1 d2 d3 ⊢;have d12:(bif decide ((v:Int)<0)then true else decide ((v:Int)>200))=false:=by rw[d1,d2];rfl
     refine bt.tQ Tryz.func151 rfl (fun args w=>Tryz.call151 args w) (Nat.le_of_ble_eq_true rfl) [(0,.ptr 1000000 0),(1,.c (.int .i64 (25-((g+1:Nat):Int))))] [(1000000,[.c (.str (c::s)),.c (.int .i64 k),.c (.int .i64 0)])] [] [1000000] rfl rfl fun β=>?_;have hf:=Tryz.func151
     repeat' (first|refine sz ?_|refine zr ?_ ?_|(refine zc ?_ ?_<;>intro h<;>first|(cases h;done)|rw[h]|skip)|refine lE ?_ (hq:=Y) (hok:=by exact⟨_,_,_,rfl,rfl,⟨_,_,rfl,rfl,⟨_,_,rfl,rfl,⟨_,_,rfl,rfl,rfl⟩⟩⟩,rfl⟩)|refine lE ?_ (hq:=W) (hok:=by exact⟨_,_,_,rfl,rfl,⟨_,_,rfl,rfl,⟨_,_,rfl,rfl,⟨_,_,rfl,rfl,rfl⟩⟩⟩,rfl⟩)|refine ai.DI Tryz.hX kn rfl rfl rfl rfl rfl rfl (l:=none) (h:=some v) rfl rfl hvl (Nat.zero_le _) ?_|refine ai.DI Tryz.hX kn rfl rfl rfl rfl rfl rfl (l:=some v) (h:=none) rfl rfl (aak _) hvl ?_|(refine uA rfl ?_ ?_<;>(try (show(_:Nat)*_<=_;dsimp only)))|((first|refine zt ?_|refine zu ?_ ?_)<;>intro h<;>(fail_if_success (cases h;done))<;>rw[h]))
     all_goals first|rfl|(rw[C];done)|(rw[C];simp;done)|(simp[C];done)
   by_cases q2:q=2
   ·subst q2;cases s with
    | nil =>
     rw[QM];have h1:=Lg (IntKind.i64.wrap (k+1)) 1 bn;have h2:=zK (IntKind.i64.wrap (k+1));have hp0:qO 0=false:=by decide +kernel
     have M:=me 0;rw[hp0]at M;have h3:=tM (IntKind.i64.wrap (k+1)) 1 bn;have U:=wR [] (IntKind.i64.wrap (k+1)) 1 1 bn;refine bt.tQ Tryz.func151 rfl (fun args w=>Tryz.call151 args w) (Nat.le_of_ble_eq_true rfl) [(0,.ptr 1000000 0),(1,.c (.int .i64 (25-((g+1:Nat):Int))))] [(1000000,[.c (.str (c::[])),.c (.int .i64 k),.c (.int .i64 0)])] [] [1000000] rfl rfl fun β=>?_;have hf:=Tryz.func151
     repeat' (first|refine sz ?_|refine zr ?_ ?_|(refine zc ?_ ?_<;>intro h<;>first|(cases h;done)|rw[h]|skip)|refine lE ?_ (hq:=Y) (hok:=by exact⟨_,_,_,rfl,rfl,⟨_,_,rfl,rfl,⟨_,_,rfl,rfl,⟨_,_,rfl,rfl,rfl⟩⟩⟩,rfl⟩)|refine lE ?_ (hq:=h2) (hok:=by exact⟨_,_,_,rfl,rfl,⟨_,_,rfl,rfl,⟨_,_,rfl,rfl,⟨_,_,rfl,rfl,rfl⟩⟩⟩,rfl⟩)|refine uC rfl M ?_|refine lE ?_ (hq:=h3) (hok:=by exact⟨_,_,_,rfl,rfl,⟨_,_,rfl,rfl,⟨_,_,rfl,rfl,⟨_,_,rfl,rfl,rfl⟩⟩⟩,rfl⟩)|refine lE ?_ (hq:=U) (hok:=by exact⟨_,_,_,rfl,rfl,⟨_,_,rfl,rfl,⟨_,_,rfl,rfl,⟨_,_,rfl,rfl,rfl⟩⟩⟩,⟨_,_,rfl,rfl,rfl⟩⟩)|(refine uA rfl ?_ ?_<;>(try (show(_:Nat)*_<=_;dsimp only)))|((first|refine zt ?_|refine zu ?_ ?_)<;>intro h<;>(fail_if_success (cases h;done))<;>rw[h]))
     refine AK.eK (α:=Unit) (fun _=>True) (fun _=>0)
      (fun _=>[(7,.c (.int .i64 0)),(0,.ptr 1000000 0),(1,.c (.int .i64 (25-((g+1:Nat):Int)))),(4,.ptr 4 0),(5,.ptr 5 0)])
      (fun _=>[(4,[.c (.int .i64 0),.c (.int .i64 0),.c (.int .i64 0),.c (.str []),.own .exact 5 []]),(5,[.c (.int .i64 ((2:Nat):Int)),.c (.int .i64 0),.c (.int .i64 0),.c (.str []),.own .exact 5 []]),(1000000,[.c (.str []),.c (.int .i64 (IntKind.i64.wrap (k+1))),.c (.int .i64 1)])]) (fun _=>[]) [4,5,1000000] ()
      trivial ⟨.inl rfl,.inl rfl,.inl rfl,.inl rfl,.inl rfl,trivial⟩ ⟨rfl,rfl,rfl,trivial⟩ trivial rfl rfl rfl ?_
     rintro _ _ S;clear S
     repeat' (first|refine sz ?_|refine zr ?_ ?_|(refine zc ?_ ?_<;>intro h<;>first|(cases h;done)|rw[h]|skip)|(refine uA rfl ?_ ?_<;>(try (show(_:Nat)*_<=_;dsimp only)))|((first|refine zt ?_|refine zu ?_ ?_)<;>intro h<;>(fail_if_success (cases h;done))<;>rw[h]))
     all_goals first|rfl|(rw[C])
    | cons p s =>
     have WQ:=wS p s (IntKind.i64.wrap (k+1)) 0;have KF:=p.toNat_lt;cases hp:qO p.toNat with
     | false =>
      rw[QN _ _ _ _ hp];have M:=me p.toNat;rw[hp]at M;have h3:=tM (IntKind.i64.wrap (k+1)) 1 bn;have U:=iN s (IntKind.i64.wrap (k+1)) 1;refine bt.tQ Tryz.func151 rfl (fun args w=>Tryz.call151 args w) (Nat.le_of_ble_eq_true rfl) [(0,.ptr 1000000 0),(1,.c (.int .i64 (25-((g+1:Nat):Int))))] [(1000000,[.c (.str (c::p::s)),.c (.int .i64 k),.c (.int .i64 0)])] [] [1000000] rfl rfl fun β=>?_;have hf:=Tryz.func151
      repeat' (first|refine sz ?_|refine zr ?_ ?_|(refine zc ?_ ?_<;>intro h<;>first|(cases h;done)|rw[h]|skip)|refine lE ?_ (hq:=Y) (hok:=by exact⟨_,_,_,rfl,rfl,⟨_,_,rfl,rfl,⟨_,_,rfl,rfl,⟨_,_,rfl,rfl,rfl⟩⟩⟩,rfl⟩)|refine lE ?_ (hq:=WQ) (hok:=by exact⟨_,_,_,rfl,rfl,⟨_,_,rfl,rfl,⟨_,_,rfl,rfl,⟨_,_,rfl,rfl,rfl⟩⟩⟩,rfl⟩)|refine uC rfl M ?_|refine lE ?_ (hq:=h3) (hok:=by exact⟨_,_,_,rfl,rfl,⟨_,_,rfl,rfl,⟨_,_,rfl,rfl,⟨_,_,rfl,rfl,rfl⟩⟩⟩,rfl⟩)|refine lE ?_ (hq:=U) (hok:=by exact⟨_,_,_,rfl,rfl,⟨_,_,rfl,rfl,⟨_,_,rfl,rfl,⟨_,_,rfl,rfl,rfl⟩⟩⟩,⟨_,_,rfl,rfl,rfl⟩⟩)|(refine uA rfl ?_ ?_<;>(try (show(_:Nat)*_<=_;dsimp only)))|((first|refine zt ?_|refine zu ?_ ?_)<;>intro h<;>(fail_if_success (cases h;done))<;>rw[h]))
      refine AK.eK (α:=Unit) (fun _=>True) (fun _=>0)
       (fun _=>[(7,.c (.int .i64 0)),(0,.ptr 1000000 0),(1,.c (.int .i64 (25-((g+1:Nat):Int)))),(4,.ptr 4 0),(5,.ptr 5 0)])
       (fun _=>[(4,[.c (.int .i64 0),.c (.int .i64 0),.c (.int .i64 0),.c (.str []),.own .exact 5 []]),(5,[.c (.int .i64 ((2:Nat):Int)),.c (.int .i64 0),.c (.int .i64 ((p.toNat:Nat):Int)),.c (.str []),.own .exact 5 []]),(1000000,[.c (.str []),.c (.int .i64 (IntKind.i64.wrap (k+1))),.c (.int .i64 1)])]) (fun _=>[]) [4,5,1000000] ()
       trivial ⟨.inl rfl,.inl rfl,.inl rfl,.inl rfl,.inl rfl,trivial⟩ ⟨rfl,rfl,rfl,trivial⟩ trivial rfl rfl rfl ?_
      rintro _ _ S;clear S
      repeat' (first|refine sz ?_|refine zr ?_ ?_|(refine zc ?_ ?_<;>intro h<;>first|(cases h;done)|rw[h]|skip)|(refine uA rfl ?_ ?_<;>(try (show(_:Nat)*_<=_;dsimp only)))|((first|refine zt ?_|refine zu ?_ ?_)<;>intro h<;>(fail_if_success (cases h;done))<;>rw[h]))
      all_goals first|rfl|(rw[C])
     | true =>
      rw[NR _ _ _ _ hp];have M:=me p.toNat;rw[hp]at M;have W:=oX (s) (IntKind.i64.wrap (k+1));rcases tL (s)with J|⟨J,Q⟩
      ·have IT:=zL J;unfold bP at IT;rw[J]at W;by_cases G:cu (s)<0
       ·rw[Cr _ _ _ _ _ (.inr G)];have H:decide (cu (s)<0)=true:=aam G;have c6:decide (cu (s)>0)=false:=aan bn;have U:=iN (cZ (s)) (IntKind.i64.wrap (k+1)) 1;refine bt.tQ Tryz.func151 rfl (fun args w=>Tryz.call151 args w) (Nat.le_of_ble_eq_true rfl) [(0,.ptr 1000000 0),(1,.c (.int .i64 (25-((g+1:Nat):Int))))] [(1000000,[.c (.str (c::p::s)),.c (.int .i64 k),.c (.int .i64 0)])] [] [1000000] rfl rfl fun β=>?_;have hf:=Tryz.func151
        repeat' (first|refine sz ?_|refine zr ?_ ?_|(refine zc ?_ ?_<;>intro h<;>first|(cases h;done)|rw[h]|skip)|refine lE ?_ (hq:=Y) (hok:=by exact⟨_,_,_,rfl,rfl,⟨_,_,rfl,rfl,⟨_,_,rfl,rfl,⟨_,_,rfl,rfl,rfl⟩⟩⟩,rfl⟩)|refine lE ?_ (hq:=WQ) (hok:=by exact⟨_,_,_,rfl,rfl,⟨_,_,rfl,rfl,⟨_,_,rfl,rfl,⟨_,_,rfl,rfl,rfl⟩⟩⟩,rfl⟩)|refine uC rfl M ?_|refine lE ?_ (hq:=W) (hok:=by exact⟨_,_,_,rfl,rfl,⟨_,_,rfl,rfl,⟨_,_,rfl,rfl,⟨_,_,rfl,rfl,rfl⟩⟩⟩,rfl⟩)|refine lE ?_ (hq:=U) (hok:=by exact⟨_,_,_,rfl,rfl,⟨_,_,rfl,rfl,⟨_,_,rfl,rfl,⟨_,_,rfl,rfl,rfl⟩⟩⟩,⟨_,_,rfl,rfl,rfl⟩⟩)|(refine uA rfl ?_ ?_<;>(try (show(_:Nat)*_<=_;dsimp only)))|((first|refine zt ?_|refine zu ?_ ?_)<;>intro h<;>(fail_if_success (cases h;done))<;>rw[h]))
        refine AK.eK (α:=Unit) (fun _=>True) (fun _=>0)
         (fun _=>[(7,.c (.int .i64 (cu (s)))),(0,.ptr 1000000 0),(1,.c (.int .i64 (25-((g+1:Nat):Int)))),(4,.ptr 4 0),(5,.ptr 5 0)])
         (fun _=>[(4,[.c (.int .i64 0),.c (.int .i64 0),.c (.int .i64 0),.c (.str []),.own .exact 5 []]),(5,[.c (.int .i64 ((2:Nat):Int)),.c (.int .i64 0),.c (.int .i64 ((p.toNat:Nat):Int)),.c (.str []),.own .exact 5 []]),(1000000,[.c (.str []),.c (.int .i64 (IntKind.i64.wrap (k+1))),.c (.int .i64 1)])]) (fun _=>[]) [4,5,1000000] ()
         trivial ⟨.inl rfl,.inl rfl,.inl rfl,.inl rfl,.inl rfl,trivial⟩ ⟨rfl,rfl,rfl,trivial⟩ trivial rfl rfl rfl ?_
        rintro _ _ S;clear S
        repeat' (first|refine sz ?_|refine zr ?_ ?_|(refine zc ?_ ?_<;>intro h<;>first|(cases h;done)|rw[h]|skip)|(refine uA rfl ?_ ?_<;>(try (show(_:Nat)*_<=_;dsimp only)))|((first|refine zt ?_|refine zu ?_ ?_)<;>intro h<;>(fail_if_success (cases h;done))<;>rw[h]))
        all_goals first|rfl|(rw[C])
       ·rw[Pu _ _ _ _ _ (by rw[J];simp;omega)];have H:decide (cu (s)<0)=false:=aan G;obtain⟨V,hv⟩:∃v:Nat,cu (s)=v:=⟨(cu (s)).toNat,bn⟩
        rw[hv]at W H;have u:(cu (s)).toNat=V:=by omega
        rw[u];refine bt.tQ Tryz.func151 rfl (fun args w=>Tryz.call151 args w) (Nat.le_of_ble_eq_true rfl) [(0,.ptr 1000000 0),(1,.c (.int .i64 (25-((g+1:Nat):Int))))] [(1000000,[.c (.str (c::p::s)),.c (.int .i64 k),.c (.int .i64 0)])] [] [1000000] rfl rfl fun β=>?_;have hf:=Tryz.func151
        repeat' (first|refine sz ?_|refine zr ?_ ?_|(refine zc ?_ ?_<;>intro h<;>first|(cases h;done)|rw[h]|skip)|refine lE ?_ (hq:=Y) (hok:=by exact⟨_,_,_,rfl,rfl,⟨_,_,rfl,rfl,⟨_,_,rfl,rfl,⟨_,_,rfl,rfl,rfl⟩⟩⟩,rfl⟩)|refine lE ?_ (hq:=WQ) (hok:=by exact⟨_,_,_,rfl,rfl,⟨_,_,rfl,rfl,⟨_,_,rfl,rfl,⟨_,_,rfl,rfl,rfl⟩⟩⟩,rfl⟩)|refine uC rfl M ?_|refine lE ?_ (hq:=W) (hok:=by exact⟨_,_,_,rfl,rfl,⟨_,_,rfl,rfl,⟨_,_,rfl,rfl,⟨_,_,rfl,rfl,rfl⟩⟩⟩,rfl⟩)|(refine uA rfl ?_ ?_<;>(try (show(_:Nat)*_<=_;dsimp only)))|((first|refine zt ?_|refine zu ?_ ?_)<;>intro h<;>(fail_if_success (cases h;done))<;>rw[h]))
        refine AK.fW [(4,4),(5,5),(1000000,1000000)] [(5000,(0,none))] (env':=[(7,.c (.int .i64 (V:Nat))),(0,.ptr 1000000 0),(1,.c (.int .i64 (25-((g+1:Nat):Int)))),(4,.ptr 4 0),(5,.ptr 5 0)])
         (bs':=[(4,[.c (.int .i64 0),.c (.int .i64 0),.c (.int .i64 0),.c (.str []),.own .exact 5 []]),(5,[.c (.int .i64 ((2:Nat):Int)),.c (.int .i64 0),.c (.int .i64 ((p.toNat:Nat):Int)),.c (.str []),.own (.tok 5000 0) 5 []]),(1000000,[.c (.str (cZ (s))),.c (.int .i64 (k+1)),.c (.int .i64 0)])]) (ts':=[(5000,0)]) (us':=[4,5,1000000,5000])
         ⟨⟨_,rfl,.inl rfl⟩,⟨_,rfl,⟨_,rfl,rfl⟩⟩,⟨_,rfl,.inl rfl⟩,⟨_,rfl,⟨_,rfl,rfl⟩⟩,⟨_,rfl,⟨_,rfl,rfl⟩⟩,trivial⟩ ⟨⟨_,_,rfl,rfl,⟨_,_,rfl,.inl rfl,⟨_,_,rfl,.inl rfl,⟨_,_,rfl,.inl rfl,⟨_,_,rfl,.inl rfl,⟨_,_,rfl,rfl,rfl⟩⟩⟩⟩⟩⟩,⟨_,_,rfl,rfl,⟨_,_,rfl,.inl rfl,⟨_,_,rfl,.inl rfl,⟨_,_,rfl,.inl rfl,⟨_,_,rfl,.inl rfl,⟨_,_,rfl,⟨_,rfl,.inl ⟨rfl,_,rfl,.inr rfl⟩⟩,rfl⟩⟩⟩⟩⟩⟩,⟨_,_,rfl,rfl,⟨_,_,rfl,.inl rfl,⟨_,_,rfl,.inl (congrArg (fun z=>AV.c (.int .i64 z)) C),⟨_,_,rfl,.inl rfl,rfl⟩⟩⟩⟩,trivial⟩ rfl ?_
        refine AK.eK (α:=Nat×List Nd×List UInt8×Int×Int) (fun z=>dY (mU g) V (cZ (s)) (k+1) 0=(z.2.1++(dY (mU g) z.1 z.2.2.1 z.2.2.2.1 z.2.2.2.2).1,(dY (mU g) z.1 z.2.2.1 z.2.2.2.1 z.2.2.2.2).2)/\0<=z.2.2.2.1/\z.2.2.2.1<=301/\(z.2.2.2.2=0->z.2.2.2.1<=300)/\(z.2.1.length:Int)<=z.2.2.2.1/\z.1<=1152921504606846976) (fun z=>z.1)
         (fun z=>[(7,.c (.int .i64 (z.1:Nat))),(0,.ptr 1000000 0),(1,.c (.int .i64 (25-((g+1:Nat):Int)))),(4,.ptr 4 0),(5,.ptr 5 0)])
         (fun z=>[(4,[.c (.int .i64 0),.c (.int .i64 0),.c (.int .i64 0),.c (.str []),.own .exact 5 []]),(5,[.c (.int .i64 ((2:Nat):Int)),.c (.int .i64 0),.c (.int .i64 ((p.toNat:Nat):Int)),.c (.str []),.own (.tok 5000 0) 5 (aI z.2.1)]),(1000000,[.c (.str z.2.2.1),.c (.int .i64 z.2.2.2.1),.c (.int .i64 z.2.2.2.2)])]) (fun _=>[(5000,0)]) [4,5,1000000,5000] (V,[],cZ (s),k+1,0)
         ⟨c9,by show 0<=k+1;omega,by show k+1<=301;omega,fun _=>by show k+1<=300;omega,by show(0:Int)<=k+1;omega,by show V<=_;omega⟩ ⟨.inl rfl,.inl rfl,.inl rfl,.inl rfl,.inl rfl,trivial⟩ ⟨rfl,rfl,rfl,trivial⟩ ⟨rfl,trivial⟩ rfl rfl rfl ?_
        rintro⟨v,acc,P,k',e'⟩ ⟨T,NS,hk',Q0,PD,Yf⟩ S;simp only at T NS hk' Q0 PD Yf;by_cases he:e'=0
        ·subst he;have O:=Q0 rfl;cases v with
         | zero =>
          rw[GF,List.append_nil]at T;rw[T];clear S;exact dq
         | succ v =>
          have c7:decide (((v+1:Nat):Int)>0)=true:=aam bn;have hq:=hin P k' NS O;have D:=MA g P k' NS O;rw[GG]at T;rcases hx:mU g P k' with ⟨⟨B,K,I,E,A⟩,s2,N,e2⟩
          rw[hx]at hq D T;simp only at hq D T;have e7:IntKind.i64.wrap (((v+1:Nat):Int)-1)=(v:Int):=by rw[gW bn bn];omega
          repeat' (first|refine sz ?_|refine zr ?_ ?_|(refine zc ?_ ?_<;>intro h<;>first|(cases h;done)|rw[h]|skip)|refine lE ?_ (hq:=hq) (hok:=by exact⟨_,_,_,rfl,rfl,⟨_,_,rfl,rfl,⟨_,_,rfl,rfl,⟨_,_,rfl,rfl,rfl⟩⟩⟩,⟨_,_,rfl,rfl,rfl⟩⟩)|(refine uA rfl ?_ ?_<;>(try (show(_:Nat)*_<=_;dsimp only)))|((first|refine zt ?_|refine zu ?_ ?_)<;>intro h<;>(fail_if_success (cases h;done))<;>rw[h]))
          ·have h1:=br acc;simp only[aac,aad];omega
          ·have hap:aI acc++[aX (.mk B K I E A)]=aI (acc++[.mk B K I E A]):=(lM acc [_]).symm;refine AK.fW [(4,4),(5,5),(1000000,1000000)] [(5000,(0,some 5000))] (env':=[(7,.c (.int .i64 (v:Nat))),(0,.ptr 1000000 0),(1,.c (.int .i64 (25-((g+1:Nat):Int)))),(4,.ptr 4 0),(5,.ptr 5 0)])
            (bs':=[(4,[.c (.int .i64 0),.c (.int .i64 0),.c (.int .i64 0),.c (.str []),.own .exact 5 []]),(5,[.c (.int .i64 ((2:Nat):Int)),.c (.int .i64 0),.c (.int .i64 ((p.toNat:Nat):Int)),.c (.str []),.own (.tok 5000 0) 5 (aI (acc++[.mk B K I E A]))]),(1000000,[.c (.str s2),.c (.int .i64 N),.c (.int .i64 e2)])]) (ts':=[(5000,0)]) (us':=[4,5,1000000,5000])
            ⟨⟨_,rfl,.inl (congrArg (fun z=>AV.c (.int .i64 z)) e7)⟩,⟨_,rfl,⟨_,rfl,rfl⟩⟩,⟨_,rfl,.inl rfl⟩,⟨_,rfl,⟨_,rfl,rfl⟩⟩,⟨_,rfl,⟨_,rfl,rfl⟩⟩,trivial⟩ ⟨⟨_,_,rfl,rfl,⟨_,_,rfl,.inl rfl,⟨_,_,rfl,.inl rfl,⟨_,_,rfl,.inl rfl,⟨_,_,rfl,.inl rfl,⟨_,_,rfl,rfl,rfl⟩⟩⟩⟩⟩⟩,⟨_,_,rfl,rfl,⟨_,_,rfl,.inl rfl,⟨_,_,rfl,.inl rfl,⟨_,_,rfl,.inl rfl,⟨_,_,rfl,.inl rfl,⟨_,_,rfl,⟨_,rfl,.inr ⟨_,_,rfl,rfl,congrArg (AV.own (.tok 5000 1) 5) hap⟩⟩,rfl⟩⟩⟩⟩⟩⟩,⟨_,_,rfl,rfl,⟨_,_,rfl,.inl rfl,⟨_,_,rfl,.inl rfl,⟨_,_,rfl,.inl rfl,rfl⟩⟩⟩⟩,trivial⟩ rfl ?_
           refine S (v,acc++[.mk B K I E A],s2,N,e2) ⟨?_,by show 0<=N;omega,by show N<=301;omega,D.2.2,Jw,by show v<=_;omega⟩ (by show v<v+1;omega);show dY (mU g) V (cZ (s)) (k+1) 0=_;rw[T];simp
        ·rw[Lh _ _ _ _ _ he,List.append_nil]at T;rw[T];have c8:(e'==0)=false:=by simpa using he
         clear S;rcases n9 ((v:Int)>0)with ⟨c7,_⟩|⟨c7,_⟩
         all_goals
          exact dq
      ·rw[Cr _ _ _ _ _ (.inl (by rw[J];omega))];rw[J,Q]at W;have U:=wR [] (IntKind.i64.wrap (k+1)) 1 1 bn;rcases n9 (cu (s)<0)with ⟨H,_⟩|⟨H,_⟩<;>rcases n9 (cu (s)>0)with ⟨c6,_⟩|⟨c6,_⟩
       all_goals
        refine bt.tQ Tryz.func151 rfl (fun args w=>Tryz.call151 args w) (Nat.le_of_ble_eq_true rfl) [(0,.ptr 1000000 0),(1,.c (.int .i64 (25-((g+1:Nat):Int))))] [(1000000,[.c (.str (c::p::s)),.c (.int .i64 k),.c (.int .i64 0)])] [] [1000000] rfl rfl fun β=>?_;have hf:=Tryz.func151
        repeat' (first|refine sz ?_|refine zr ?_ ?_|(refine zc ?_ ?_<;>intro h<;>first|(cases h;done)|rw[h]|skip)|refine lE ?_ (hq:=Y) (hok:=by exact⟨_,_,_,rfl,rfl,⟨_,_,rfl,rfl,⟨_,_,rfl,rfl,⟨_,_,rfl,rfl,rfl⟩⟩⟩,rfl⟩)|refine lE ?_ (hq:=WQ) (hok:=by exact⟨_,_,_,rfl,rfl,⟨_,_,rfl,rfl,⟨_,_,rfl,rfl,⟨_,_,rfl,rfl,rfl⟩⟩⟩,rfl⟩)|refine uC rfl M ?_|refine lE ?_ (hq:=W) (hok:=by exact⟨_,_,_,rfl,rfl,⟨_,_,rfl,rfl,⟨_,_,rfl,rfl,⟨_,_,rfl,rfl,rfl⟩⟩⟩,rfl⟩)|refine lE ?_ (hq:=U) (hok:=by exact⟨_,_,_,rfl,rfl,⟨_,_,rfl,rfl,⟨_,_,rfl,rfl,⟨_,_,rfl,rfl,rfl⟩⟩⟩,⟨_,_,rfl,rfl,rfl⟩⟩)|(refine uA rfl ?_ ?_<;>(try (show(_:Nat)*_<=_;dsimp only)))|((first|refine zt ?_|refine zu ?_ ?_)<;>intro h<;>(fail_if_success (cases h;done))<;>rw[h]))
        refine AK.eK (α:=Unit) (fun _=>True) (fun _=>0)
         (fun _=>[(7,.c (.int .i64 (cu (s)))),(0,.ptr 1000000 0),(1,.c (.int .i64 (25-((g+1:Nat):Int)))),(4,.ptr 4 0),(5,.ptr 5 0)])
         (fun _=>[(4,[.c (.int .i64 0),.c (.int .i64 0),.c (.int .i64 0),.c (.str []),.own .exact 5 []]),(5,[.c (.int .i64 ((2:Nat):Int)),.c (.int .i64 0),.c (.int .i64 ((p.toNat:Nat):Int)),.c (.str []),.own .exact 5 []]),(1000000,[.c (.str []),.c (.int .i64 (IntKind.i64.wrap (k+1))),.c (.int .i64 1)])]) (fun _=>[]) [4,5,1000000] ()
         trivial ⟨.inl rfl,.inl rfl,.inl rfl,.inl rfl,.inl rfl,trivial⟩ ⟨rfl,rfl,rfl,trivial⟩ trivial rfl rfl rfl ?_
        rintro _ _ S;clear S
        repeat' (first|refine sz ?_|refine zr ?_ ?_|(refine zc ?_ ?_<;>intro h<;>first|(cases h;done)|rw[h]|skip)|(refine uA rfl ?_ ?_<;>(try (show(_:Nat)*_<=_;dsimp only)))|((first|refine zt ?_|refine zu ?_ ?_)<;>intro h<;>(fail_if_success (cases h;done))<;>rw[h]))
        all_goals first|rfl|(rw[C])
   by_cases q3:q=3
   ·subst q3;rw[aaq];have W:=oX (s) (IntKind.i64.wrap (k+1));rcases tL (s)with J|⟨J,Q⟩
    ·have IT:=zL J;unfold bP at IT;rw[J]at W;by_cases G:cu (s)<0
     ·rw[Cr _ _ _ _ _ (.inr G)];have H:decide (cu (s)<0)=true:=aam G;have c6:decide (cu (s)>0)=false:=aan bn;have U:=iN (cZ (s)) (IntKind.i64.wrap (k+1)) 1;refine bt.tQ Tryz.func151 rfl (fun args w=>Tryz.call151 args w) (Nat.le_of_ble_eq_true rfl) [(0,.ptr 1000000 0),(1,.c (.int .i64 (25-((g+1:Nat):Int))))] [(1000000,[.c (.str (c::s)),.c (.int .i64 k),.c (.int .i64 0)])] [] [1000000] rfl rfl fun β=>?_;have hf:=Tryz.func151
      repeat' (first|refine sz ?_|refine zr ?_ ?_|(refine zc ?_ ?_<;>intro h<;>first|(cases h;done)|rw[h]|skip)|refine lE ?_ (hq:=Y) (hok:=by exact⟨_,_,_,rfl,rfl,⟨_,_,rfl,rfl,⟨_,_,rfl,rfl,⟨_,_,rfl,rfl,rfl⟩⟩⟩,rfl⟩)|refine lE ?_ (hq:=W) (hok:=by exact⟨_,_,_,rfl,rfl,⟨_,_,rfl,rfl,⟨_,_,rfl,rfl,⟨_,_,rfl,rfl,rfl⟩⟩⟩,rfl⟩)|refine lE ?_ (hq:=U) (hok:=by exact⟨_,_,_,rfl,rfl,⟨_,_,rfl,rfl,⟨_,_,rfl,rfl,⟨_,_,rfl,rfl,rfl⟩⟩⟩,⟨_,_,rfl,rfl,rfl⟩⟩)|(refine uA rfl ?_ ?_<;>(try (show(_:Nat)*_<=_;dsimp only)))|((first|refine zt ?_|refine zu ?_ ?_)<;>intro h<;>(fail_if_success (cases h;done))<;>rw[h]))
      refine AK.eK (α:=Unit) (fun _=>True) (fun _=>0)
       (fun _=>[(7,.c (.int .i64 (cu (s)))),(0,.ptr 1000000 0),(1,.c (.int .i64 (25-((g+1:Nat):Int)))),(4,.ptr 4 0),(5,.ptr 5 0)])
       (fun _=>[(4,[.c (.int .i64 0),.c (.int .i64 0),.c (.int .i64 0),.c (.str []),.own .exact 5 []]),(5,[.c (.int .i64 ((3:Nat):Int)),.c (.int .i64 0),.c (.int .i64 0),.c (.str []),.own .exact 5 []]),(1000000,[.c (.str []),.c (.int .i64 (IntKind.i64.wrap (k+1))),.c (.int .i64 1)])]) (fun _=>[]) [4,5,1000000] ()
       trivial ⟨.inl rfl,.inl rfl,.inl rfl,.inl rfl,.inl rfl,trivial⟩ ⟨rfl,rfl,rfl,trivial⟩ trivial rfl rfl rfl ?_
      rintro _ _ S;clear S
      repeat' (first|refine sz ?_|refine zr ?_ ?_|(refine zc ?_ ?_<;>intro h<;>first|(cases h;done)|rw[h]|skip)|(refine uA rfl ?_ ?_<;>(try (show(_:Nat)*_<=_;dsimp only)))|((first|refine zt ?_|refine zu ?_ ?_)<;>intro h<;>(fail_if_success (cases h;done))<;>rw[h]))
      all_goals first|rfl|(rw[C])
     ·rw[Pu _ _ _ _ _ (by rw[J];simp;omega)];have H:decide (cu (s)<0)=false:=aan G;obtain⟨V,hv⟩:∃v:Nat,cu (s)=v:=⟨(cu (s)).toNat,bn⟩
      rw[hv]at W H;have u:(cu (s)).toNat=V:=by omega
      rw[u];refine bt.tQ Tryz.func151 rfl (fun args w=>Tryz.call151 args w) (Nat.le_of_ble_eq_true rfl) [(0,.ptr 1000000 0),(1,.c (.int .i64 (25-((g+1:Nat):Int))))] [(1000000,[.c (.str (c::s)),.c (.int .i64 k),.c (.int .i64 0)])] [] [1000000] rfl rfl fun β=>?_;have hf:=Tryz.func151
      repeat' (first|refine sz ?_|refine zr ?_ ?_|(refine zc ?_ ?_<;>intro h<;>first|(cases h;done)|rw[h]|skip)|refine lE ?_ (hq:=Y) (hok:=by exact⟨_,_,_,rfl,rfl,⟨_,_,rfl,rfl,⟨_,_,rfl,rfl,⟨_,_,rfl,rfl,rfl⟩⟩⟩,rfl⟩)|refine lE ?_ (hq:=W) (hok:=by exact⟨_,_,_,rfl,rfl,⟨_,_,rfl,rfl,⟨_,_,rfl,rfl,⟨_,_,rfl,rfl,rfl⟩⟩⟩,rfl⟩)|(refine uA rfl ?_ ?_<;>(try (show(_:Nat)*_<=_;dsimp only)))|((first|refine zt ?_|refine zu ?_ ?_)<;>intro h<;>(fail_if_success (cases h;done))<;>rw[h]))
      refine AK.fW [(4,4),(5,5),(1000000,1000000)] [(5000,(0,none))] (env':=[(7,.c (.int .i64 (V:Nat))),(0,.ptr 1000000 0),(1,.c (.int .i64 (25-((g+1:Nat):Int)))),(4,.ptr 4 0),(5,.ptr 5 0)])
       (bs':=[(4,[.c (.int .i64 0),.c (.int .i64 0),.c (.int .i64 0),.c (.str []),.own .exact 5 []]),(5,[.c (.int .i64 ((3:Nat):Int)),.c (.int .i64 0),.c (.int .i64 0),.c (.str []),.own (.tok 5000 0) 5 []]),(1000000,[.c (.str (cZ (s))),.c (.int .i64 (k+1)),.c (.int .i64 0)])]) (ts':=[(5000,0)]) (us':=[4,5,1000000,5000])
       ⟨⟨_,rfl,.inl rfl⟩,⟨_,rfl,⟨_,rfl,rfl⟩⟩,⟨_,rfl,.inl rfl⟩,⟨_,rfl,⟨_,rfl,rfl⟩⟩,⟨_,rfl,⟨_,rfl,rfl⟩⟩,trivial⟩ ⟨⟨_,_,rfl,rfl,⟨_,_,rfl,.inl rfl,⟨_,_,rfl,.inl rfl,⟨_,_,rfl,.inl rfl,⟨_,_,rfl,.inl rfl,⟨_,_,rfl,rfl,rfl⟩⟩⟩⟩⟩⟩,⟨_,_,rfl,rfl,⟨_,_,rfl,.inl rfl,⟨_,_,rfl,.inl rfl,⟨_,_,rfl,.inl rfl,⟨_,_,rfl,.inl rfl,⟨_,_,rfl,⟨_,rfl,.inl ⟨rfl,_,rfl,.inr rfl⟩⟩,rfl⟩⟩⟩⟩⟩⟩,⟨_,_,rfl,rfl,⟨_,_,rfl,.inl rfl,⟨_,_,rfl,.inl (congrArg (fun z=>AV.c (.int .i64 z)) C),⟨_,_,rfl,.inl rfl,rfl⟩⟩⟩⟩,trivial⟩ rfl ?_
      refine AK.eK (α:=Nat×List Nd×List UInt8×Int×Int) (fun z=>dY (mU g) V (cZ (s)) (k+1) 0=(z.2.1++(dY (mU g) z.1 z.2.2.1 z.2.2.2.1 z.2.2.2.2).1,(dY (mU g) z.1 z.2.2.1 z.2.2.2.1 z.2.2.2.2).2)/\0<=z.2.2.2.1/\z.2.2.2.1<=301/\(z.2.2.2.2=0->z.2.2.2.1<=300)/\(z.2.1.length:Int)<=z.2.2.2.1/\z.1<=1152921504606846976) (fun z=>z.1)
       (fun z=>[(7,.c (.int .i64 (z.1:Nat))),(0,.ptr 1000000 0),(1,.c (.int .i64 (25-((g+1:Nat):Int)))),(4,.ptr 4 0),(5,.ptr 5 0)])
       (fun z=>[(4,[.c (.int .i64 0),.c (.int .i64 0),.c (.int .i64 0),.c (.str []),.own .exact 5 []]),(5,[.c (.int .i64 ((3:Nat):Int)),.c (.int .i64 0),.c (.int .i64 0),.c (.str []),.own (.tok 5000 0) 5 (aI z.2.1)]),(1000000,[.c (.str z.2.2.1),.c (.int .i64 z.2.2.2.1),.c (.int .i64 z.2.2.2.2)])]) (fun _=>[(5000,0)]) [4,5,1000000,5000] (V,[],cZ (s),k+1,0)
       ⟨c9,by show 0<=k+1;omega,by show k+1<=301;omega,fun _=>by show k+1<=300;omega,by show(0:Int)<=k+1;omega,by show V<=_;omega⟩ ⟨.inl rfl,.inl rfl,.inl rfl,.inl rfl,.inl rfl,trivial⟩ ⟨rfl,rfl,rfl,trivial⟩ ⟨rfl,trivial⟩ rfl rfl rfl ?_
      rintro⟨v,acc,P,k',e'⟩ ⟨T,NS,hk',Q0,PD,Yf⟩ S;simp only at T NS hk' Q0 PD Yf;by_cases he:e'=0
      ·subst he;have O:=Q0 rfl;cases v with
       | zero =>
        rw[GF,List.append_nil]at T;rw[T];clear S;exact dq
       | succ v =>
        have c7:decide (((v+1:Nat):Int)>0)=true:=aam bn;have hq:=hin P k' NS O;have D:=MA g P k' NS O;rw[GG]at T;rcases hx:mU g P k' with ⟨⟨B,K,I,E,A⟩,s2,N,e2⟩
        rw[hx]at hq D T;simp only at hq D T;have e7:IntKind.i64.wrap (((v+1:Nat):Int)-1)=(v:Int):=by rw[gW bn bn];omega
        repeat' (first|refine sz ?_|refine zr ?_ ?_|(refine zc ?_ ?_<;>intro h<;>first|(cases h;done)|rw[h]|skip)|refine lE ?_ (hq:=hq) (hok:=by exact⟨_,_,_,rfl,rfl,⟨_,_,rfl,rfl,⟨_,_,rfl,rfl,⟨_,_,rfl,rfl,rfl⟩⟩⟩,⟨_,_,rfl,rfl,rfl⟩⟩)|(refine uA rfl ?_ ?_<;>(try (show(_:Nat)*_<=_;dsimp only)))|((first|refine zt ?_|refine zu ?_ ?_)<;>intro h<;>(fail_if_success (cases h;done))<;>rw[h]))
        ·have h1:=br acc;simp only[aac,aad];omega
        ·have hap:aI acc++[aX (.mk B K I E A)]=aI (acc++[.mk B K I E A]):=(lM acc [_]).symm;refine AK.fW [(4,4),(5,5),(1000000,1000000)] [(5000,(0,some 5000))] (env':=[(7,.c (.int .i64 (v:Nat))),(0,.ptr 1000000 0),(1,.c (.int .i64 (25-((g+1:Nat):Int)))),(4,.ptr 4 0),(5,.ptr 5 0)])
          (bs':=[(4,[.c (.int .i64 0),.c (.int .i64 0),.c (.int .i64 0),.c (.str []),.own .exact 5 []]),(5,[.c (.int .i64 ((3:Nat):Int)),.c (.int .i64 0),.c (.int .i64 0),.c (.str []),.own (.tok 5000 0) 5 (aI (acc++[.mk B K I E A]))]),(1000000,[.c (.str s2),.c (.int .i64 N),.c (.int .i64 e2)])]) (ts':=[(5000,0)]) (us':=[4,5,1000000,5000])
          ⟨⟨_,rfl,.inl (congrArg (fun z=>AV.c (.int .i64 z)) e7)⟩,⟨_,rfl,⟨_,rfl,rfl⟩⟩,⟨_,rfl,.inl rfl⟩,⟨_,rfl,⟨_,rfl,rfl⟩⟩,⟨_,rfl,⟨_,rfl,rfl⟩⟩,trivial⟩ ⟨⟨_,_,rfl,rfl,⟨_,_,rfl,.inl rfl,⟨_,_,rfl,.inl rfl,⟨_,_,rfl,.inl rfl,⟨_,_,rfl,.inl rfl,⟨_,_,rfl,rfl,rfl⟩⟩⟩⟩⟩⟩,⟨_,_,rfl,rfl,⟨_,_,rfl,.inl rfl,⟨_,_,rfl,.inl rfl,⟨_,_,rfl,.inl rfl,⟨_,_,rfl,.inl rfl,⟨_,_,rfl,⟨_,rfl,.inr ⟨_,_,rfl,rfl,congrArg (AV.own (.tok 5000 1) 5) hap⟩⟩,rfl⟩⟩⟩⟩⟩⟩,⟨_,_,rfl,rfl,⟨_,_,rfl,.inl rfl,⟨_,_,rfl,.inl rfl,⟨_,_,rfl,.inl rfl,rfl⟩⟩⟩⟩,trivial⟩ rfl ?_
         refine S (v,acc++[.mk B K I E A],s2,N,e2) ⟨?_,by show 0<=N;omega,by show N<=301;omega,D.2.2,Jw,by show v<=_;omega⟩ (by show v<v+1;omega);show dY (mU g) V (cZ (s)) (k+1) 0=_;rw[T];simp
      ·rw[Lh _ _ _ _ _ he,List.append_nil]at T;rw[T];have c8:(e'==0)=false:=by simpa using he
       clear S;rcases n9 ((v:Int)>0)with ⟨c7,_⟩|⟨c7,_⟩
       all_goals
        exact dq
    ·rw[Cr _ _ _ _ _ (.inl (by rw[J];omega))];rw[J,Q]at W;have U:=wR [] (IntKind.i64.wrap (k+1)) 1 1 bn;rcases n9 (cu (s)<0)with ⟨H,_⟩|⟨H,_⟩<;>rcases n9 (cu (s)>0)with ⟨c6,_⟩|⟨c6,_⟩
     all_goals
      refine bt.tQ Tryz.func151 rfl (fun args w=>Tryz.call151 args w) (Nat.le_of_ble_eq_true rfl) [(0,.ptr 1000000 0),(1,.c (.int .i64 (25-((g+1:Nat):Int))))] [(1000000,[.c (.str (c::s)),.c (.int .i64 k),.c (.int .i64 0)])] [] [1000000] rfl rfl fun β=>?_;have hf:=Tryz.func151
      repeat' (first|refine sz ?_|refine zr ?_ ?_|(refine zc ?_ ?_<;>intro h<;>first|(cases h;done)|rw[h]|skip)|refine lE ?_ (hq:=Y) (hok:=by exact⟨_,_,_,rfl,rfl,⟨_,_,rfl,rfl,⟨_,_,rfl,rfl,⟨_,_,rfl,rfl,rfl⟩⟩⟩,rfl⟩)|refine lE ?_ (hq:=W) (hok:=by exact⟨_,_,_,rfl,rfl,⟨_,_,rfl,rfl,⟨_,_,rfl,rfl,⟨_,_,rfl,rfl,rfl⟩⟩⟩,rfl⟩)|refine lE ?_ (hq:=U) (hok:=by exact⟨_,_,_,rfl,rfl,⟨_,_,rfl,rfl,⟨_,_,rfl,rfl,⟨_,_,rfl,rfl,rfl⟩⟩⟩,⟨_,_,rfl,rfl,rfl⟩⟩)|(refine uA rfl ?_ ?_<;>(try (show(_:Nat)*_<=_;dsimp only)))|((first|refine zt ?_|refine zu ?_ ?_)<;>intro h<;>(fail_if_success (cases h;done))<;>rw[h]))
      refine AK.eK (α:=Unit) (fun _=>True) (fun _=>0)
       (fun _=>[(7,.c (.int .i64 (cu (s)))),(0,.ptr 1000000 0),(1,.c (.int .i64 (25-((g+1:Nat):Int)))),(4,.ptr 4 0),(5,.ptr 5 0)])
       (fun _=>[(4,[.c (.int .i64 0),.c (.int .i64 0),.c (.int .i64 0),.c (.str []),.own .exact 5 []]),(5,[.c (.int .i64 ((3:Nat):Int)),.c (.int .i64 0),.c (.int .i64 0),.c (.str []),.own .exact 5 []]),(1000000,[.c (.str []),.c (.int .i64 (IntKind.i64.wrap (k+1))),.c (.int .i64 1)])]) (fun _=>[]) [4,5,1000000] ()
       trivial ⟨.inl rfl,.inl rfl,.inl rfl,.inl rfl,.inl rfl,trivial⟩ ⟨rfl,rfl,rfl,trivial⟩ trivial rfl rfl rfl ?_
      rintro _ _ S;clear S
      repeat' (first|refine sz ?_|refine zr ?_ ?_|(refine zc ?_ ?_<;>intro h<;>first|(cases h;done)|rw[h]|skip)|(refine uA rfl ?_ ?_<;>(try (show(_:Nat)*_<=_;dsimp only)))|((first|refine zt ?_|refine zu ?_ ?_)<;>intro h<;>(fail_if_success (cases h;done))<;>rw[h]))
      all_goals first|rfl|(rw[C])
   ·rw[V0 _ _ _ _ bn];have f0:((q:Int)==0)=false:=by simpa using q0
    have f1:((q:Int)==1)=false:=by simp;omega
    have f2:((q:Int)==2)=false:=by simp;omega
    have f3:((q:Int)==3)=false:=by simp;omega
    have h3:=tM (IntKind.i64.wrap (k+1)) 1 bn;have U:=iN s (IntKind.i64.wrap (k+1)) 1;refine bt.tQ Tryz.func151 rfl (fun args w=>Tryz.call151 args w) (Nat.le_of_ble_eq_true rfl) [(0,.ptr 1000000 0),(1,.c (.int .i64 (25-((g+1:Nat):Int))))] [(1000000,[.c (.str (c::s)),.c (.int .i64 k),.c (.int .i64 0)])] [] [1000000] rfl rfl fun β=>?_;have hf:=Tryz.func151
    repeat' (first|refine sz ?_|refine zr ?_ ?_|(refine zc ?_ ?_<;>intro h<;>first|(cases h;done)|rw[h]|skip)|refine lE ?_ (hq:=Y) (hok:=by exact⟨_,_,_,rfl,rfl,⟨_,_,rfl,rfl,⟨_,_,rfl,rfl,⟨_,_,rfl,rfl,rfl⟩⟩⟩,rfl⟩)|refine lE ?_ (hq:=h3) (hok:=by exact⟨_,_,_,rfl,rfl,⟨_,_,rfl,rfl,⟨_,_,rfl,rfl,⟨_,_,rfl,rfl,rfl⟩⟩⟩,rfl⟩)|refine lE ?_ (hq:=U) (hok:=by exact⟨_,_,_,rfl,rfl,⟨_,_,rfl,rfl,⟨_,_,rfl,rfl,⟨_,_,rfl,rfl,rfl⟩⟩⟩,⟨_,_,rfl,rfl,rfl⟩⟩)|(refine uA rfl ?_ ?_<;>(try (show(_:Nat)*_<=_;dsimp only)))|((first|refine zt ?_|refine zu ?_ ?_)<;>intro h<;>(fail_if_success (cases h;done))<;>rw[h]))
    refine AK.eK (α:=Unit) (fun _=>True) (fun _=>0)
     (fun _=>[(7,.c (.int .i64 0)),(0,.ptr 1000000 0),(1,.c (.int .i64 (25-((g+1:Nat):Int)))),(4,.ptr 4 0),(5,.ptr 5 0)])
     (fun _=>[(4,[.c (.int .i64 0),.c (.int .i64 0),.c (.int .i64 0),.c (.str []),.own .exact 5 []]),(5,[.c (.int .i64 (q:Int)),.c (.int .i64 0),.c (.int .i64 0),.c (.str []),.own .exact 5 []]),(1000000,[.c (.str []),.c (.int .i64 (IntKind.i64.wrap (k+1))),.c (.int .i64 1)])]) (fun _=>[]) [4,5,1000000] ()
     trivial ⟨.inl rfl,.inl rfl,.inl rfl,.inl rfl,.inl rfl,trivial⟩ ⟨rfl,rfl,rfl,trivial⟩ trivial rfl rfl rfl ?_
    rintro _ _ S;clear S
    repeat' (first|refine sz ?_|refine zr ?_ ?_|(refine zc ?_ ?_<;>intro h<;>first|(cases h;done)|rw[h]|skip)|(refine uA rfl ?_ ?_<;>(try (show(_:Nat)*_<=_;dsimp only)))|((first|refine zt ?_|refine zu ?_ ?_)<;>intro h<;>(fail_if_success (cases h;done))<;>rw[h]))
    all_goals first|rfl|(rw[C])
attribute [local irreducible] eR
theorem NT (s:List UInt8):eR s=match eZ 24 s 300 with
 | .no e=>(sM,e)
 | .ok n r _=>if r=[]then(n,0)else(sM,1):=by unfold eR;rfl
theorem G1 (s:List UInt8):ag 143 [.str s] (.gy [aX (eR s).1,.int .i64 (eR s).2]):=by
 have h1:=zM 24 s 0 bn bn bn;have A:=Ke 24 s 300 bn;rw[show(300:Int)-((300:Nat):Int)=0 from rfl]at A;rw[show(25:Int)-((24:Nat):Int)=1 from rfl]at h1;rw[NT];cases I:eZ 24 s 300 with
 | no e =>
  rw[I]at A;simp only[rF]at A;rcases O:mU 24 s 0 with ⟨⟨B,N,M,E,p⟩,s2,k2,e2⟩
  rw[O]at h1 A;simp only at h1 A;obtain⟨rfl,rfl,P⟩:=A;have q:(e2==0)=false:=by simpa using P
  have J:(e2 != 0)=true:=by simpa using P
  refine qn Tryz.func143 Tryz.call143 fun β hf=>?_;exact dq
 | ok n r l =>
  rw[I]at A;simp only[rF]at A;rw[A.1]at h1;simp only at h1;obtain⟨B,N,M,E,p⟩:=n;cases r with
  | nil =>
   refine qn Tryz.func143 Tryz.call143 fun β hf=>?_;exact dq
  | cons c r =>
   have h2:=iN (c::r) (300-(l:Int)) 1;refine qn Tryz.func143 Tryz.call143 fun β hf=>?_;exact dq
end Go.Proofs
