/- What node of package tree's reader and Decode answer. -/
import Derived.Test.YtdnpapgijbhofaaGreatDoorTree4Rt
open Go.IntKind
open Go.Proofs.Tryz
set_option linter.defProp false
set_option maxHeartbeats 0
set_option linter.unusedVariables false
set_option linter.unusedSimpArgs false
set_option maxRecDepth 100000
namespace Go.Proofs
open Go.cB
def T6(s:L UInt8)(k:Int):mN 0 s k=⟨oF,[],k+1,4⟩:=rfl
def T7(g:Nat)(s:L UInt8)(k:Int)(h:k+1>300):mN (g+1) s k=⟨oF,[],k+1,4⟩:=by simp only[mN,if_pos h]
def VT(g:Nat)(k:Int)(h:¬(k+1>300)):mN (g+1) [] k=⟨oF,[],k+1,1⟩:=by simp only[mN,if_neg h]
def T8(g:Nat)(c:UInt8)(s:L UInt8)(k:Int)(h:¬(k+1>300)):mN (g+1) (c::s) k=gY (mN g) c.toNat s (k+1):=by simp only[mN,if_neg h]
def Z7(f:L UInt8->Int->RX)(s:L UInt8)(k:Int):gY f 0 s k=⟨.mk 0 (bY s) 0 [] [],cR s,k,iW s⟩:=rfl
def Qp(f:L UInt8->Int->RX)(s:L UInt8)(k:Int)(h:bY s<0\/bY s>200\/bY s>(cR s).length):gY f 1 s k=⟨.mk 1 0 0 [] [],[],k,1⟩:=by simp only[gY,if_pos h];rfl
def NK(f:L UInt8->Int->RX)(s:L UInt8)(k:Int)(h:¬(bY s<0\/bY s>200\/bY s>(cR s).length)):gY f 1 s k=⟨.mk 1 0 0 ((cR s).take (bY s).toNat) [],(cR s).drop (bY s).toNat,k,iW s⟩:=by simp only[gY,if_neg h];rfl
def Qq(f:L UInt8->Int->RX)(k:Int):gY f 2 [] k=⟨.mk 2 0 0 [] [],[],k,1⟩:=rfl
def NN(f:L UInt8->Int->RX)(p:UInt8)(s:L UInt8)(k:Int)(h:qM p.toNat=true):gY f 2 (p::s) k=iN f 2 p.toNat s k:=by simp[gY,h]
def Qr(f:L UInt8->Int->RX)(p:UInt8)(s:L UInt8)(k:Int)(h:qM p.toNat=false):gY f 2 (p::s) k=⟨.mk 2 0 p.toNat [] [],[],k,1⟩:=by simp[gY,h]
def Z8(f:L UInt8->Int->RX)(s:L UInt8)(k:Int):gY f 3 s k=iN f 3 0 s k:=rfl
def VU(f:L UInt8->Int->RX)(c:Nat)(s:L UInt8)(k:Int)(h:c>3):gY f c s k=⟨.mk c 0 0 [] [],[],k,1⟩:=by simp only[gY];rw[if_neg bn,if_neg bn,if_neg bn,if_neg bn]
def Cc(f:L UInt8->Int->RX)(u p:Int)(s:L UInt8)(k:Int)(h:iW s≠0\/bY s<0):iN f u p s k=⟨.mk u 0 p [] [],[],k,1⟩:=by simp only[iN,if_pos h]
def O3(f:L UInt8->Int->RX)(u p:Int)(s:L UInt8)(k:Int)(h:¬(iW s≠0\/bY s<0)):iN f u p s k=⟨.mk u 0 p [] (dZ f (bY s).toNat (cR s) k 0).1,(dZ f (bY s).toNat (cR s) k 0).2.1,(dZ f (bY s).toNat (cR s) k 0).2.2.1,(dZ f (bY s).toNat (cR s) k 0).2.2.2⟩:=by simp only[iN,if_neg h]
def Gk(f:L UInt8->Int->RX)(s:L UInt8)(k e:Int):dZ f 0 s k e=([],s,k,e):=rfl
def Lh(f:L UInt8->Int->RX)(v:Nat)(s:L UInt8)(k e:Int)(h:e≠0):dZ f v s k e=([],s,k,e):=by
 cases v with
 |zero=>rfl
 |succ v=>simp only[dZ,if_pos h]
def Gl(f:L UInt8->Int->RX)(v:Nat)(s:L UInt8)(k:Int):dZ f (v+1) s k 0=((f s k).n::(dZ f v (f s k).s (f s k).k (f s k).e).1,(dZ f v (f s k).s (f s k).k (f s k).e).2):=by simp[dZ]
def zo{s:L UInt8}(h:iW s=0) : -bF<=bY s/\bY s<=bF:=by
 cases O:eN s with
 |none=>rw[(jv O).2]at h;simp at h
 |some x =>
  rw[(sr O).1];exact(mK O).2
def tf(s:L UInt8):iW s=0\/iW s=1/\cR s=[]:=by
 cases O:eN s with
 |none=>right;exact⟨(jv O).2,(jv O).1⟩
 |some x=>left;exact(sr O).2.2
section
attribute [local irreducible] AK ai
def tg(k e:Int)(Y:e≠0):fz 198 [.box [.c (.str []),.c (.int .i64 k),.c (.int .i64 e)]] [.c (.int .i64 0)] [(0,[.c (.str []),.c (.int .i64 k),.c (.int .i64 e)])]:=by
 have h1:=Lg k e Y;refine en func198 call198 [(0,.ptr 1000000 0)] [(1000000,[.c (.str []),.c (.int .i64 k),.c (.int .i64 e)])] [] [1000000] λβ hf=>?_
 repeat' (first|refine sz ?_|refine ze ?_ ?_|(intro h;first|(cases h;done)|rw[h]|skip)|refine kV ?_ (hq:=h1))
 refine AK.dI (α:=Unit) (λ_=>True) (λ_=>0)
  (λ_=>[(3,.c (.int .i64 0)),(4,.c (.bool (decide ((0:Nat)/64%2=1)))),(5,.c (.int .i64 ((0%64:Nat):Int))),(0,.ptr 1000000 0)])
  (λ_=>[(1000000,[.c (.str []),.c (.int .i64 k),.c (.int .i64 e)])]) (λ_=>[]) [1000000] ()
  trivial ⟨.inl Z,.inl (aaZ (λz=>some (AV.c (CV.bool z))) (QK (c:=0) bn)),.inl (aaZ (λz=>some (AV.c (CV.int .i64 z))) (I2 (a:=0) bn)),.inl Z,trivial⟩ ⟨Z,trivial⟩ trivial Z Z Z ?_
 rintro _ _ S;clear S;exact dq
end
attribute [local irreducible] AK ai aR bW mN gY iN dZ bY cR iW qM
def zp:∀(g:Nat)(s:L UInt8)(k:Int),g<=24->0<=k->k<=300 ->
  fz 192 [.box [.c (.str s),.c (.int .i64 k),.c (.int .i64 0)],.v (.c (.int .i64 (25-(g:Int))))] [.c (aS (mN g s k).n)] [(0,[.c (.str (mN g s k).s),.c (.int .i64 (mN g s k).k),.c (.int .i64 (mN g s k).e)])]
 |0,s,k,hg,Cj,hk=>by
  rw[T6];have B:i64.wrap (k+1)=k+1:=gM bn bn;have h1:=iz s (k+1) 4;rw[<- B]at h1;refine en func192 call192 [(0,.ptr 1000000 0),(1,.c (.int .i64 25))] [(1000000,[.c (.str s),.c (.int .i64 k),.c (.int .i64 0)])] [] [1000000] λβ hf=>?_
  repeat' (first|refine sz ?_|refine ze ?_ ?_|(intro h;first|(cases h;done)|rw[h]|skip)|refine kV ?_ (hq:=h1) (hok:=by exact⟨_,_,_,Z,Z,⟨_,_,Z,Z,⟨_,_,Z,Z,⟨_,_,Z,Z,Z⟩⟩⟩,⟨_,_,Z,Z,Z⟩⟩)|(refine uA Z ?_ ?_<;>(try (show(_:Nat)*_<=_;dsimp only))))
  all_goals first|rfl|(rw[B])
 |g+1,s,k,hg,Cj,hk=>by
  have B:i64.wrap (k+1)=k+1:=gM bn bn;have hin:∀(A:L UInt8)(k':Int),0<=k'->k'<=300->fz 192 [.box [.c (.str A),.c (.int .i64 k'),.c (.int .i64 0)],.v (.c (.int .i64 (i64.wrap (25-((g+1:Nat):Int)+1))))] [.c (aS (mN g A k').n)] [(0,[.c (.str (mN g A k').s),.c (.int .i64 (mN g A k').k),.c (.int .i64 (mN g A k').e)])]:=by intro A k' h0 h1;rw[gM bn bn,show(25-((g+1:Nat):Int)+1)=25-(g:Int)from by omega];exact zp g A k' bn h0 h1
  have c0:decide ((25-((g+1:Nat):Int))>24)=false:=aan bn;by_cases Li:k+1>300
  ·rw[T7 _ _ _ Li];have c1:decide (i64.wrap (k+1)>300)=true:=aam (by rw[B];exact Li);have h1:=iz s (i64.wrap (k+1)) 4;refine en func192 call192 [(0,.ptr 1000000 0),(1,.c (.int .i64 (25-((g+1:Nat):Int))))] [(1000000,[.c (.str s),.c (.int .i64 k),.c (.int .i64 0)])] [] [1000000] λβ hf=>?_
   repeat' (first|refine sz ?_|refine ze ?_ ?_|(intro h;first|(cases h;done)|rw[h]|skip)|refine kV ?_ (hq:=h1) (hok:=by exact⟨_,_,_,Z,Z,⟨_,_,Z,Z,⟨_,_,Z,Z,⟨_,_,Z,Z,Z⟩⟩⟩,⟨_,_,Z,Z,Z⟩⟩)|(refine uA Z ?_ ?_<;>(try (show(_:Nat)*_<=_;dsimp only))))
   all_goals first|rfl|(rw[B])
  have c1:decide (i64.wrap (k+1)>300)=false:=aan (by rw[B];exact Li);cases s with
  |nil =>
   rw[VT _ _ Li];have h1:=zn (i64.wrap (k+1));have h2:=tg (i64.wrap (k+1)) 1 bn;refine en func192 call192 [(0,.ptr 1000000 0),(1,.c (.int .i64 (25-((g+1:Nat):Int))))] [(1000000,[.c (.str []),.c (.int .i64 k),.c (.int .i64 0)])] [] [1000000] λβ hf=>?_
   repeat' (first|refine sz ?_|refine ze ?_ ?_|(intro h;first|(cases h;done)|rw[h]|skip)|refine kV ?_ (hq:=h1) (hok:=by exact⟨_,_,_,Z,Z,⟨_,_,Z,Z,⟨_,_,Z,Z,⟨_,_,Z,Z,Z⟩⟩⟩,Z⟩)|refine kV ?_ (hq:=h2) (hok:=by exact⟨_,_,_,Z,Z,⟨_,_,Z,Z,⟨_,_,Z,Z,⟨_,_,Z,Z,Z⟩⟩⟩,Z⟩)|(refine uA Z ?_ ?_<;>(try (show(_:Nat)*_<=_;dsimp only))))
   all_goals first|rfl|(rw[B])
  |cons c s =>
   rw[T8 _ _ _ _ Li];have Y:=wo c s (i64.wrap (k+1)) 0;have hcb:=c.toNat_lt;generalize hq:c.toNat=q at Y hcb;by_cases q0:q=0
   ·subst q0;rw[Z7];have W:=oQ s (i64.wrap (k+1));refine en func192 call192 [(0,.ptr 1000000 0),(1,.c (.int .i64 (25-((g+1:Nat):Int))))] [(1000000,[.c (.str (c::s)),.c (.int .i64 k),.c (.int .i64 0)])] [] [1000000] λβ hf=>?_
    repeat' (first|refine sz ?_|refine ze ?_ ?_|(intro h;first|(cases h;done)|rw[h]|skip)|refine kV ?_ (hq:=Y) (hok:=by exact⟨_,_,_,Z,Z,⟨_,_,Z,Z,⟨_,_,Z,Z,⟨_,_,Z,Z,Z⟩⟩⟩,Z⟩)|refine kV ?_ (hq:=W) (hok:=by exact⟨_,_,_,Z,Z,⟨_,_,Z,Z,⟨_,_,Z,Z,⟨_,_,Z,Z,Z⟩⟩⟩,Z⟩)|(refine uA Z ?_ ?_<;>(try (show(_:Nat)*_<=_;dsimp only))))
    all_goals first|rfl|(rw[B])
   by_cases q1:q=1
   ·subst q1;have W:=oQ s (i64.wrap (k+1));by_cases Z9:bY s<0\/bY s>200\/bY s>(cR s).length
    ·rw[Qp _ _ _ Z9];have P:fz 193 [.box [.c (.str (cR s)),.c (.int .i64 (i64.wrap (k+1))),.c (.int .i64 (iW s))],.v (.c (.int .i64 1))] [] [(0,[.c (.str []),.c (.int .i64 (i64.wrap (k+1))),.c (.int .i64 1)])]:=by
      rcases tf s with H|⟨H,Q⟩
      rw[H];exact iz _ _ _;rw[H,Q];exact wm _ _ _ _ bn
     rcases nM (bY s<0)with ⟨d1,b1⟩|⟨d1,b1⟩<;>rcases nM (bY s>200)with ⟨d2,b2⟩|⟨d2,b2⟩<;>rcases nM (bY s>(cR s).length)with ⟨d3,b3⟩|⟨d3,b3⟩
     all_goals first|(exfalso;omega)|skip
     all_goals
      refine en func192 call192 [(0,.ptr 1000000 0),(1,.c (.int .i64 (25-((g+1:Nat):Int))))] [(1000000,[.c (.str (c::s)),.c (.int .i64 k),.c (.int .i64 0)])] [] [1000000] λβ hf=>?_
      repeat' (first|refine sz ?_|refine ze ?_ ?_|(intro h;first|(cases h;done)|rw[h]|skip)|refine kV ?_ (hq:=Y) (hok:=by exact⟨_,_,_,Z,Z,⟨_,_,Z,Z,⟨_,_,Z,Z,⟨_,_,Z,Z,Z⟩⟩⟩,Z⟩)|refine kV ?_ (hq:=W) (hok:=by exact⟨_,_,_,Z,Z,⟨_,_,Z,Z,⟨_,_,Z,Z,⟨_,_,Z,Z,Z⟩⟩⟩,Z⟩)|refine kV ?_ (hq:=P) (hok:=by exact⟨_,_,_,Z,Z,⟨_,_,Z,Z,⟨_,_,Z,Z,⟨_,_,Z,Z,Z⟩⟩⟩,⟨_,_,Z,Z,Z⟩⟩)|(refine uA Z ?_ ?_<;>(try (show(_:Nat)*_<=_;dsimp only))))
      all_goals first|rfl|(rw[B])
    rw[NK _ _ _ Z9];have d1:decide (bY s<0)=false:=aan bn;have d2:decide (bY s>200)=false:=aan bn;have d3:decide (bY s>(cR s).length)=false:=aan bn;obtain⟨v,hv⟩:∃v:Nat,bY s=v:=⟨(bY s).toNat,bn⟩;have hvl:v<=(cR s).length:=(by omega);rw[hv]at W d1 d2 d3 ⊢;have d12:(bif decide ((v:Int)<0)then true else decide ((v:Int)>200))=false:=(by rw[d1,d2];rfl);refine en func192 call192 [(0,.ptr 1000000 0),(1,.c (.int .i64 (25-((g+1:Nat):Int))))] [(1000000,[.c (.str (c::s)),.c (.int .i64 k),.c (.int .i64 0)])] [] [1000000] λβ hf=>?_
    repeat' (first|refine sz ?_|refine ze ?_ ?_|(intro h;first|(cases h;done)|rw[h]|skip)|refine kV ?_ (hq:=Y) (hok:=by exact⟨_,_,_,Z,Z,⟨_,_,Z,Z,⟨_,_,Z,Z,⟨_,_,Z,Z,Z⟩⟩⟩,Z⟩)|refine kV ?_ (hq:=W) (hok:=by exact⟨_,_,_,Z,Z,⟨_,_,Z,Z,⟨_,_,Z,Z,⟨_,_,Z,Z,Z⟩⟩⟩,Z⟩)|refine ai.Dt hX kn Z Z Z Z Z Z (l:=none) (h:=some v) Z Z hvl (abG _) ?_|refine ai.Dt hX kn Z Z Z Z Z Z (l:=some v) (h:=none) Z Z (aal _) hvl ?_|(refine uA Z ?_ ?_<;>(try (show(_:Nat)*_<=_;dsimp only))))
    all_goals first|rfl|(rw[B];done)|(rw[B];simp;done)|(simp[B];done)
   by_cases q2:q=2
   ·subst q2;cases s with
    |nil =>
     rw[Qq];have h1:=Lg (i64.wrap (k+1)) 1 bn;have h2:=zn (i64.wrap (k+1));have hp0:qM 0=false:=(by decide +kernel);have N:=lN 0;rw[hp0]at N;have h3:=tg (i64.wrap (k+1)) 1 bn;have P:=wm [] (i64.wrap (k+1)) 1 1 bn;refine en func192 call192 [(0,.ptr 1000000 0),(1,.c (.int .i64 (25-((g+1:Nat):Int))))] [(1000000,[.c (.str (c::[])),.c (.int .i64 k),.c (.int .i64 0)])] [] [1000000] λβ hf=>?_
     repeat' (first|refine sz ?_|refine ze ?_ ?_|(intro h;first|(cases h;done)|rw[h]|skip)|refine kV ?_ (hq:=Y) (hok:=by exact⟨_,_,_,Z,Z,⟨_,_,Z,Z,⟨_,_,Z,Z,⟨_,_,Z,Z,Z⟩⟩⟩,Z⟩)|refine kV ?_ (hq:=h2) (hok:=by exact⟨_,_,_,Z,Z,⟨_,_,Z,Z,⟨_,_,Z,Z,⟨_,_,Z,Z,Z⟩⟩⟩,Z⟩)|refine uC Z N ?_|refine kV ?_ (hq:=h3) (hok:=by exact⟨_,_,_,Z,Z,⟨_,_,Z,Z,⟨_,_,Z,Z,⟨_,_,Z,Z,Z⟩⟩⟩,Z⟩)|refine kV ?_ (hq:=P) (hok:=by exact⟨_,_,_,Z,Z,⟨_,_,Z,Z,⟨_,_,Z,Z,⟨_,_,Z,Z,Z⟩⟩⟩,⟨_,_,Z,Z,Z⟩⟩)|(refine uA Z ?_ ?_<;>(try (show(_:Nat)*_<=_;dsimp only))))
     refine AK.dI (α:=Unit) (λ_=>True) (λ_=>0)
      (λ_=>[(7,.c (.int .i64 0)),(0,.ptr 1000000 0),(1,.c (.int .i64 (25-((g+1:Nat):Int)))),(4,.ptr 4 0),(5,.ptr 5 0)])
      (λ_=>[(4,[.c (.int .i64 0),.c (.int .i64 0),.c (.int .i64 0),.c (.str []),.own .exact 5 []]),(5,[.c (.int .i64 ((2:Nat):Int)),.c (.int .i64 0),.c (.int .i64 0),.c (.str []),.own .exact 5 []]),(1000000,[.c (.str []),.c (.int .i64 (i64.wrap (k+1))),.c (.int .i64 1)])]) (λ_=>[]) [4,5,1000000] ()
      trivial ce ⟨Z,Z,Z,trivial⟩ trivial Z Z Z ?_
     rintro _ _ S;clear S
     repeat' (first|refine sz ?_|refine ze ?_ ?_|(intro h;first|(cases h;done)|rw[h]|skip)|(refine uA Z ?_ ?_<;>(try (show(_:Nat)*_<=_;dsimp only))))
     all_goals first|rfl|(rw[B])
    |cons p s =>
     have WE:=wo p s (i64.wrap (k+1)) 0;have KE:=p.toNat_lt;cases hp:qM p.toNat with
     |false =>
      rw[Qr _ _ _ _ hp];have N:=lN p.toNat;rw[hp]at N;have h3:=tg (i64.wrap (k+1)) 1 bn;have P:=iz s (i64.wrap (k+1)) 1;refine en func192 call192 [(0,.ptr 1000000 0),(1,.c (.int .i64 (25-((g+1:Nat):Int))))] [(1000000,[.c (.str (c::p::s)),.c (.int .i64 k),.c (.int .i64 0)])] [] [1000000] λβ hf=>?_
      repeat' (first|refine sz ?_|refine ze ?_ ?_|(intro h;first|(cases h;done)|rw[h]|skip)|refine kV ?_ (hq:=Y) (hok:=by exact⟨_,_,_,Z,Z,⟨_,_,Z,Z,⟨_,_,Z,Z,⟨_,_,Z,Z,Z⟩⟩⟩,Z⟩)|refine kV ?_ (hq:=WE) (hok:=by exact⟨_,_,_,Z,Z,⟨_,_,Z,Z,⟨_,_,Z,Z,⟨_,_,Z,Z,Z⟩⟩⟩,Z⟩)|refine uC Z N ?_|refine kV ?_ (hq:=h3) (hok:=by exact⟨_,_,_,Z,Z,⟨_,_,Z,Z,⟨_,_,Z,Z,⟨_,_,Z,Z,Z⟩⟩⟩,Z⟩)|refine kV ?_ (hq:=P) (hok:=by exact⟨_,_,_,Z,Z,⟨_,_,Z,Z,⟨_,_,Z,Z,⟨_,_,Z,Z,Z⟩⟩⟩,⟨_,_,Z,Z,Z⟩⟩)|(refine uA Z ?_ ?_<;>(try (show(_:Nat)*_<=_;dsimp only))))
      refine AK.dI (α:=Unit) (λ_=>True) (λ_=>0)
       (λ_=>[(7,.c (.int .i64 0)),(0,.ptr 1000000 0),(1,.c (.int .i64 (25-((g+1:Nat):Int)))),(4,.ptr 4 0),(5,.ptr 5 0)])
       (λ_=>[(4,[.c (.int .i64 0),.c (.int .i64 0),.c (.int .i64 0),.c (.str []),.own .exact 5 []]),(5,[.c (.int .i64 ((2:Nat):Int)),.c (.int .i64 0),.c (.int .i64 ((p.toNat:Nat):Int)),.c (.str []),.own .exact 5 []]),(1000000,[.c (.str []),.c (.int .i64 (i64.wrap (k+1))),.c (.int .i64 1)])]) (λ_=>[]) [4,5,1000000] ()
       trivial ce ⟨Z,Z,Z,trivial⟩ trivial Z Z Z ?_
      rintro _ _ S;clear S
      repeat' (first|refine sz ?_|refine ze ?_ ?_|(intro h;first|(cases h;done)|rw[h]|skip)|(refine uA Z ?_ ?_<;>(try (show(_:Nat)*_<=_;dsimp only))))
      all_goals first|rfl|(rw[B])
     |true =>
      rw[NN _ _ _ _ hp];have N:=lN p.toNat;rw[hp]at N;have W:=oQ (s) (i64.wrap (k+1));rcases tf (s)with H|⟨H,Q⟩
      ·have IT:=zo H;unfold bF at IT;rw[H]at W;by_cases D:bY (s)<0
       ·rw[Cc _ _ _ _ _ (.inr D)];have M:decide (bY (s)<0)=true:=aam D;have c6:decide (bY (s)>0)=false:=aan bn;have P:=iz (cR (s)) (i64.wrap (k+1)) 1;refine en func192 call192 [(0,.ptr 1000000 0),(1,.c (.int .i64 (25-((g+1:Nat):Int))))] [(1000000,[.c (.str (c::p::s)),.c (.int .i64 k),.c (.int .i64 0)])] [] [1000000] λβ hf=>?_
        repeat' (first|refine sz ?_|refine ze ?_ ?_|(intro h;first|(cases h;done)|rw[h]|skip)|refine kV ?_ (hq:=Y) (hok:=by exact⟨_,_,_,Z,Z,⟨_,_,Z,Z,⟨_,_,Z,Z,⟨_,_,Z,Z,Z⟩⟩⟩,Z⟩)|refine kV ?_ (hq:=WE) (hok:=by exact⟨_,_,_,Z,Z,⟨_,_,Z,Z,⟨_,_,Z,Z,⟨_,_,Z,Z,Z⟩⟩⟩,Z⟩)|refine uC Z N ?_|refine kV ?_ (hq:=W) (hok:=by exact⟨_,_,_,Z,Z,⟨_,_,Z,Z,⟨_,_,Z,Z,⟨_,_,Z,Z,Z⟩⟩⟩,Z⟩)|refine kV ?_ (hq:=P) (hok:=by exact⟨_,_,_,Z,Z,⟨_,_,Z,Z,⟨_,_,Z,Z,⟨_,_,Z,Z,Z⟩⟩⟩,⟨_,_,Z,Z,Z⟩⟩)|(refine uA Z ?_ ?_<;>(try (show(_:Nat)*_<=_;dsimp only))))
        refine AK.dI (α:=Unit) (λ_=>True) (λ_=>0)
         (λ_=>[(7,.c (.int .i64 (bY (s)))),(0,.ptr 1000000 0),(1,.c (.int .i64 (25-((g+1:Nat):Int)))),(4,.ptr 4 0),(5,.ptr 5 0)])
         (λ_=>[(4,[.c (.int .i64 0),.c (.int .i64 0),.c (.int .i64 0),.c (.str []),.own .exact 5 []]),(5,[.c (.int .i64 ((2:Nat):Int)),.c (.int .i64 0),.c (.int .i64 ((p.toNat:Nat):Int)),.c (.str []),.own .exact 5 []]),(1000000,[.c (.str []),.c (.int .i64 (i64.wrap (k+1))),.c (.int .i64 1)])]) (λ_=>[]) [4,5,1000000] ()
         trivial ce ⟨Z,Z,Z,trivial⟩ trivial Z Z Z ?_
        rintro _ _ S;clear S
        repeat' (first|refine sz ?_|refine ze ?_ ?_|(intro h;first|(cases h;done)|rw[h]|skip)|(refine uA Z ?_ ?_<;>(try (show(_:Nat)*_<=_;dsimp only))))
        all_goals first|rfl|(rw[B])
       rw[O3 _ _ _ _ _ (by rw[H];simp;omega)];have M:decide (bY (s)<0)=false:=aan D;obtain⟨V,hv⟩:∃v:Nat,bY (s)=v:=⟨(bY (s)).toNat,bn⟩;rw[hv]at W M;have u:(bY (s)).toNat=V:=(by omega);rw[u];refine en func192 call192 [(0,.ptr 1000000 0),(1,.c (.int .i64 (25-((g+1:Nat):Int))))] [(1000000,[.c (.str (c::p::s)),.c (.int .i64 k),.c (.int .i64 0)])] [] [1000000] λβ hf=>?_
       repeat' (first|refine sz ?_|refine ze ?_ ?_|(intro h;first|(cases h;done)|rw[h]|skip)|refine kV ?_ (hq:=Y) (hok:=by exact⟨_,_,_,Z,Z,⟨_,_,Z,Z,⟨_,_,Z,Z,⟨_,_,Z,Z,Z⟩⟩⟩,Z⟩)|refine kV ?_ (hq:=WE) (hok:=by exact⟨_,_,_,Z,Z,⟨_,_,Z,Z,⟨_,_,Z,Z,⟨_,_,Z,Z,Z⟩⟩⟩,Z⟩)|refine uC Z N ?_|refine kV ?_ (hq:=W) (hok:=by exact⟨_,_,_,Z,Z,⟨_,_,Z,Z,⟨_,_,Z,Z,⟨_,_,Z,Z,Z⟩⟩⟩,Z⟩)|(refine uA Z ?_ ?_<;>(try (show(_:Nat)*_<=_;dsimp only))))
       refine AK.fQ [(4,4),(5,5),(1000000,1000000)] [(5000,(0,none))] (env':=[(7,.c (.int .i64 (V:Nat))),(0,.ptr 1000000 0),(1,.c (.int .i64 (25-((g+1:Nat):Int)))),(4,.ptr 4 0),(5,.ptr 5 0)])
        (bs':=[(4,[.c (.int .i64 0),.c (.int .i64 0),.c (.int .i64 0),.c (.str []),.own .exact 5 []]),(5,[.c (.int .i64 ((2:Nat):Int)),.c (.int .i64 0),.c (.int .i64 ((p.toNat:Nat):Int)),.c (.str []),.own (.tok 5000 0) 5 []]),(1000000,[.c (.str (cR (s))),.c (.int .i64 (k+1)),.c (.int .i64 0)])]) (ts':=[(5000,0)]) (us':=[4,5,1000000,5000])
        ce  ⟨ce,ce,⟨_,_,Z,Z,⟨_,_,Z,.inl Z,⟨_,_,Z,.inl (aaZ (λz=>AV.c (.int .i64 z)) B),⟨_,_,Z,.inl Z,Z⟩⟩⟩⟩,trivial⟩ Z ?_
       refine AK.dI (α:=Nat×L Nd×L UInt8×Int×Int) (λz=>dZ (mN g) V (cR (s)) (k+1) 0=(z.2.1++(dZ (mN g) z.1 z.2.2.1 z.2.2.2.1 z.2.2.2.2).1,(dZ (mN g) z.1 z.2.2.1 z.2.2.2.1 z.2.2.2.2).2)/\0<=z.2.2.2.1/\z.2.2.2.1<=301/\(z.2.2.2.2=0->z.2.2.2.1<=300)/\(z.2.1.length:Int)<=z.2.2.2.1/\z.1<=1152921504606846976) (λz=>z.1)
        (λz=>[(7,.c (.int .i64 (z.1:Nat))),(0,.ptr 1000000 0),(1,.c (.int .i64 (25-((g+1:Nat):Int)))),(4,.ptr 4 0),(5,.ptr 5 0)])
        (λz=>[(4,[.c (.int .i64 0),.c (.int .i64 0),.c (.int .i64 0),.c (.str []),.own .exact 5 []]),(5,[.c (.int .i64 ((2:Nat):Int)),.c (.int .i64 0),.c (.int .i64 ((p.toNat:Nat):Int)),.c (.str []),.own (.tok 5000 0) 5 (aD z.2.1)]),(1000000,[.c (.str z.2.2.1),.c (.int .i64 z.2.2.2.1),.c (.int .i64 z.2.2.2.2)])]) (λ_=>[(5000,0)]) [4,5,1000000,5000] (V,[],cR (s),k+1,0)
        ⟨c9,by show 0<=k+1;omega,by show k+1<=301;omega,λ_=>by show k+1<=300;omega,by show(0:Int)<=k+1;omega,by show V<=_;omega⟩ ce ⟨Z,Z,Z,trivial⟩ ⟨Z,trivial⟩ Z Z Z ?_
       rintro⟨v,acc,A,k',e'⟩ ⟨U,NO,hk',QC,O7,Yb⟩ S;simp only at U NO hk' QC O7 Yb;by_cases he:e'=0
       ·subst he;have O:=QC Z;cases v with
        |zero =>
         rw[Gk,aba]at U;rw[U];clear S;exact dq
        |succ v =>
         have c7:decide (((v+1:Nat):Int)>0)=true:=aam bn;have hq:=hin A k' NO O;have T:=NI g A k' NO O;rw[Gl]at U;rcases hx:mN g A k' with ⟨⟨K,J,G,E,C⟩,s2,I,e2⟩
         rw[hx]at hq T U;simp only at hq T U;have e7:i64.wrap (((v+1:Nat):Int)-1)=(v:Int):=by rw[gM bn bn];omega
         repeat' (first|refine sz ?_|refine ze ?_ ?_|(intro h;first|(cases h;done)|rw[h]|skip)|refine kV ?_ (hq:=hq) (hok:=by exact⟨_,_,_,Z,Z,⟨_,_,Z,Z,⟨_,_,Z,Z,⟨_,_,Z,Z,Z⟩⟩⟩,⟨_,_,Z,Z,Z⟩⟩)|(refine uA Z ?_ ?_<;>(try (show(_:Nat)*_<=_;dsimp only))))
         have h1:=bf acc;simp only[aaa,aab];omega;have hap:aD acc++[aS (.mk K J G E C)]=aD (acc++[.mk K J G E C]):=(kX acc [_]).symm;refine AK.fQ [(4,4),(5,5),(1000000,1000000)] [(5000,(0,some 5000))] (env':=[(7,.c (.int .i64 (v:Nat))),(0,.ptr 1000000 0),(1,.c (.int .i64 (25-((g+1:Nat):Int)))),(4,.ptr 4 0),(5,.ptr 5 0)])
          (bs':=[(4,[.c (.int .i64 0),.c (.int .i64 0),.c (.int .i64 0),.c (.str []),.own .exact 5 []]),(5,[.c (.int .i64 ((2:Nat):Int)),.c (.int .i64 0),.c (.int .i64 ((p.toNat:Nat):Int)),.c (.str []),.own (.tok 5000 0) 5 (aD (acc++[.mk K J G E C]))]),(1000000,[.c (.str s2),.c (.int .i64 I),.c (.int .i64 e2)])]) (ts':=[(5000,0)]) (us':=[4,5,1000000,5000])
          ⟨⟨_,Z,.inl (aaZ (λz=>AV.c (.int .i64 z)) e7)⟩,⟨_,Z,⟨_,Z,Z⟩⟩,⟨_,Z,.inl Z⟩,⟨_,Z,⟨_,Z,Z⟩⟩,⟨_,Z,⟨_,Z,Z⟩⟩,trivial⟩ ⟨ce,⟨_,_,Z,Z,⟨_,_,Z,.inl Z,⟨_,_,Z,.inl Z,⟨_,_,Z,.inl Z,⟨_,_,Z,.inl Z,⟨_,_,Z,⟨_,Z,.inr ⟨_,_,Z,Z,aaZ (AV.own (.tok 5000 1) 5) hap⟩⟩,Z⟩⟩⟩⟩⟩⟩,ce,trivial⟩ Z ?_
         refine S (v,acc++[.mk K J G E C],s2,I,e2) ⟨?_,by show 0<=I;omega,by show I<=301;omega,T.2.2,N2,by show v<=_;omega⟩ (by show v<v+1;omega);show dZ (mN g) V (cR (s)) (k+1) 0=_;rw[U];simp
       rw[Lh _ _ _ _ _ he,aba]at U;rw[U];have c8:(e'==0)=false:=(by simpa using he);clear S;rcases nM ((v:Int)>0)with ⟨c7,_⟩|⟨c7,_⟩
       all_goals
        exact dq
      rw[Cc _ _ _ _ _ (.inl (by rw[H];omega))];rw[H,Q]at W;have P:=wm [] (i64.wrap (k+1)) 1 1 bn;rcases nM (bY (s)<0)with ⟨M,_⟩|⟨M,_⟩<;>rcases nM (bY (s)>0)with ⟨c6,_⟩|⟨c6,_⟩
      all_goals
       refine en func192 call192 [(0,.ptr 1000000 0),(1,.c (.int .i64 (25-((g+1:Nat):Int))))] [(1000000,[.c (.str (c::p::s)),.c (.int .i64 k),.c (.int .i64 0)])] [] [1000000] λβ hf=>?_
       repeat' (first|refine sz ?_|refine ze ?_ ?_|(intro h;first|(cases h;done)|rw[h]|skip)|refine kV ?_ (hq:=Y) (hok:=by exact⟨_,_,_,Z,Z,⟨_,_,Z,Z,⟨_,_,Z,Z,⟨_,_,Z,Z,Z⟩⟩⟩,Z⟩)|refine kV ?_ (hq:=WE) (hok:=by exact⟨_,_,_,Z,Z,⟨_,_,Z,Z,⟨_,_,Z,Z,⟨_,_,Z,Z,Z⟩⟩⟩,Z⟩)|refine uC Z N ?_|refine kV ?_ (hq:=W) (hok:=by exact⟨_,_,_,Z,Z,⟨_,_,Z,Z,⟨_,_,Z,Z,⟨_,_,Z,Z,Z⟩⟩⟩,Z⟩)|refine kV ?_ (hq:=P) (hok:=by exact⟨_,_,_,Z,Z,⟨_,_,Z,Z,⟨_,_,Z,Z,⟨_,_,Z,Z,Z⟩⟩⟩,⟨_,_,Z,Z,Z⟩⟩)|(refine uA Z ?_ ?_<;>(try (show(_:Nat)*_<=_;dsimp only))))
       refine AK.dI (α:=Unit) (λ_=>True) (λ_=>0)
        (λ_=>[(7,.c (.int .i64 (bY (s)))),(0,.ptr 1000000 0),(1,.c (.int .i64 (25-((g+1:Nat):Int)))),(4,.ptr 4 0),(5,.ptr 5 0)])
        (λ_=>[(4,[.c (.int .i64 0),.c (.int .i64 0),.c (.int .i64 0),.c (.str []),.own .exact 5 []]),(5,[.c (.int .i64 ((2:Nat):Int)),.c (.int .i64 0),.c (.int .i64 ((p.toNat:Nat):Int)),.c (.str []),.own .exact 5 []]),(1000000,[.c (.str []),.c (.int .i64 (i64.wrap (k+1))),.c (.int .i64 1)])]) (λ_=>[]) [4,5,1000000] ()
        trivial ce ⟨Z,Z,Z,trivial⟩ trivial Z Z Z ?_
       rintro _ _ S;clear S
       repeat' (first|refine sz ?_|refine ze ?_ ?_|(intro h;first|(cases h;done)|rw[h]|skip)|(refine uA Z ?_ ?_<;>(try (show(_:Nat)*_<=_;dsimp only))))
       all_goals first|rfl|(rw[B])
   by_cases q3:q=3
   ·subst q3;rw[Z8];have W:=oQ (s) (i64.wrap (k+1));rcases tf (s)with H|⟨H,Q⟩
    ·have IT:=zo H;unfold bF at IT;rw[H]at W;by_cases D:bY (s)<0
     ·rw[Cc _ _ _ _ _ (.inr D)];have M:decide (bY (s)<0)=true:=aam D;have c6:decide (bY (s)>0)=false:=aan bn;have P:=iz (cR (s)) (i64.wrap (k+1)) 1;refine en func192 call192 [(0,.ptr 1000000 0),(1,.c (.int .i64 (25-((g+1:Nat):Int))))] [(1000000,[.c (.str (c::s)),.c (.int .i64 k),.c (.int .i64 0)])] [] [1000000] λβ hf=>?_
      repeat' (first|refine sz ?_|refine ze ?_ ?_|(intro h;first|(cases h;done)|rw[h]|skip)|refine kV ?_ (hq:=Y) (hok:=by exact⟨_,_,_,Z,Z,⟨_,_,Z,Z,⟨_,_,Z,Z,⟨_,_,Z,Z,Z⟩⟩⟩,Z⟩)|refine kV ?_ (hq:=W) (hok:=by exact⟨_,_,_,Z,Z,⟨_,_,Z,Z,⟨_,_,Z,Z,⟨_,_,Z,Z,Z⟩⟩⟩,Z⟩)|refine kV ?_ (hq:=P) (hok:=by exact⟨_,_,_,Z,Z,⟨_,_,Z,Z,⟨_,_,Z,Z,⟨_,_,Z,Z,Z⟩⟩⟩,⟨_,_,Z,Z,Z⟩⟩)|(refine uA Z ?_ ?_<;>(try (show(_:Nat)*_<=_;dsimp only))))
      refine AK.dI (α:=Unit) (λ_=>True) (λ_=>0)
       (λ_=>[(7,.c (.int .i64 (bY (s)))),(0,.ptr 1000000 0),(1,.c (.int .i64 (25-((g+1:Nat):Int)))),(4,.ptr 4 0),(5,.ptr 5 0)])
       (λ_=>[(4,[.c (.int .i64 0),.c (.int .i64 0),.c (.int .i64 0),.c (.str []),.own .exact 5 []]),(5,[.c (.int .i64 ((3:Nat):Int)),.c (.int .i64 0),.c (.int .i64 0),.c (.str []),.own .exact 5 []]),(1000000,[.c (.str []),.c (.int .i64 (i64.wrap (k+1))),.c (.int .i64 1)])]) (λ_=>[]) [4,5,1000000] ()
       trivial ce ⟨Z,Z,Z,trivial⟩ trivial Z Z Z ?_
      rintro _ _ S;clear S
      repeat' (first|refine sz ?_|refine ze ?_ ?_|(intro h;first|(cases h;done)|rw[h]|skip)|(refine uA Z ?_ ?_<;>(try (show(_:Nat)*_<=_;dsimp only))))
      all_goals first|rfl|(rw[B])
     rw[O3 _ _ _ _ _ (by rw[H];simp;omega)];have M:decide (bY (s)<0)=false:=aan D;obtain⟨V,hv⟩:∃v:Nat,bY (s)=v:=⟨(bY (s)).toNat,bn⟩;rw[hv]at W M;have u:(bY (s)).toNat=V:=(by omega);rw[u];refine en func192 call192 [(0,.ptr 1000000 0),(1,.c (.int .i64 (25-((g+1:Nat):Int))))] [(1000000,[.c (.str (c::s)),.c (.int .i64 k),.c (.int .i64 0)])] [] [1000000] λβ hf=>?_
     repeat' (first|refine sz ?_|refine ze ?_ ?_|(intro h;first|(cases h;done)|rw[h]|skip)|refine kV ?_ (hq:=Y) (hok:=by exact⟨_,_,_,Z,Z,⟨_,_,Z,Z,⟨_,_,Z,Z,⟨_,_,Z,Z,Z⟩⟩⟩,Z⟩)|refine kV ?_ (hq:=W) (hok:=by exact⟨_,_,_,Z,Z,⟨_,_,Z,Z,⟨_,_,Z,Z,⟨_,_,Z,Z,Z⟩⟩⟩,Z⟩)|(refine uA Z ?_ ?_<;>(try (show(_:Nat)*_<=_;dsimp only))))
     refine AK.fQ [(4,4),(5,5),(1000000,1000000)] [(5000,(0,none))] (env':=[(7,.c (.int .i64 (V:Nat))),(0,.ptr 1000000 0),(1,.c (.int .i64 (25-((g+1:Nat):Int)))),(4,.ptr 4 0),(5,.ptr 5 0)])
      (bs':=[(4,[.c (.int .i64 0),.c (.int .i64 0),.c (.int .i64 0),.c (.str []),.own .exact 5 []]),(5,[.c (.int .i64 ((3:Nat):Int)),.c (.int .i64 0),.c (.int .i64 0),.c (.str []),.own (.tok 5000 0) 5 []]),(1000000,[.c (.str (cR (s))),.c (.int .i64 (k+1)),.c (.int .i64 0)])]) (ts':=[(5000,0)]) (us':=[4,5,1000000,5000])
      ce  ⟨ce,ce,⟨_,_,Z,Z,⟨_,_,Z,.inl Z,⟨_,_,Z,.inl (aaZ (λz=>AV.c (.int .i64 z)) B),⟨_,_,Z,.inl Z,Z⟩⟩⟩⟩,trivial⟩ Z ?_
     refine AK.dI (α:=Nat×L Nd×L UInt8×Int×Int) (λz=>dZ (mN g) V (cR (s)) (k+1) 0=(z.2.1++(dZ (mN g) z.1 z.2.2.1 z.2.2.2.1 z.2.2.2.2).1,(dZ (mN g) z.1 z.2.2.1 z.2.2.2.1 z.2.2.2.2).2)/\0<=z.2.2.2.1/\z.2.2.2.1<=301/\(z.2.2.2.2=0->z.2.2.2.1<=300)/\(z.2.1.length:Int)<=z.2.2.2.1/\z.1<=1152921504606846976) (λz=>z.1)
      (λz=>[(7,.c (.int .i64 (z.1:Nat))),(0,.ptr 1000000 0),(1,.c (.int .i64 (25-((g+1:Nat):Int)))),(4,.ptr 4 0),(5,.ptr 5 0)])
      (λz=>[(4,[.c (.int .i64 0),.c (.int .i64 0),.c (.int .i64 0),.c (.str []),.own .exact 5 []]),(5,[.c (.int .i64 ((3:Nat):Int)),.c (.int .i64 0),.c (.int .i64 0),.c (.str []),.own (.tok 5000 0) 5 (aD z.2.1)]),(1000000,[.c (.str z.2.2.1),.c (.int .i64 z.2.2.2.1),.c (.int .i64 z.2.2.2.2)])]) (λ_=>[(5000,0)]) [4,5,1000000,5000] (V,[],cR (s),k+1,0)
      ⟨c9,by show 0<=k+1;omega,by show k+1<=301;omega,λ_=>by show k+1<=300;omega,by show(0:Int)<=k+1;omega,by show V<=_;omega⟩ ce ⟨Z,Z,Z,trivial⟩ ⟨Z,trivial⟩ Z Z Z ?_
     rintro⟨v,acc,A,k',e'⟩ ⟨U,NO,hk',QC,O7,Yb⟩ S;simp only at U NO hk' QC O7 Yb;by_cases he:e'=0
     ·subst he;have O:=QC Z;cases v with
      |zero =>
       rw[Gk,aba]at U;rw[U];clear S;exact dq
      |succ v =>
       have c7:decide (((v+1:Nat):Int)>0)=true:=aam bn;have hq:=hin A k' NO O;have T:=NI g A k' NO O;rw[Gl]at U;rcases hx:mN g A k' with ⟨⟨K,J,G,E,C⟩,s2,I,e2⟩
       rw[hx]at hq T U;simp only at hq T U;have e7:i64.wrap (((v+1:Nat):Int)-1)=(v:Int):=by rw[gM bn bn];omega
       repeat' (first|refine sz ?_|refine ze ?_ ?_|(intro h;first|(cases h;done)|rw[h]|skip)|refine kV ?_ (hq:=hq) (hok:=by exact⟨_,_,_,Z,Z,⟨_,_,Z,Z,⟨_,_,Z,Z,⟨_,_,Z,Z,Z⟩⟩⟩,⟨_,_,Z,Z,Z⟩⟩)|(refine uA Z ?_ ?_<;>(try (show(_:Nat)*_<=_;dsimp only))))
       have h1:=bf acc;simp only[aaa,aab];omega;have hap:aD acc++[aS (.mk K J G E C)]=aD (acc++[.mk K J G E C]):=(kX acc [_]).symm;refine AK.fQ [(4,4),(5,5),(1000000,1000000)] [(5000,(0,some 5000))] (env':=[(7,.c (.int .i64 (v:Nat))),(0,.ptr 1000000 0),(1,.c (.int .i64 (25-((g+1:Nat):Int)))),(4,.ptr 4 0),(5,.ptr 5 0)])
        (bs':=[(4,[.c (.int .i64 0),.c (.int .i64 0),.c (.int .i64 0),.c (.str []),.own .exact 5 []]),(5,[.c (.int .i64 ((3:Nat):Int)),.c (.int .i64 0),.c (.int .i64 0),.c (.str []),.own (.tok 5000 0) 5 (aD (acc++[.mk K J G E C]))]),(1000000,[.c (.str s2),.c (.int .i64 I),.c (.int .i64 e2)])]) (ts':=[(5000,0)]) (us':=[4,5,1000000,5000])
        ⟨⟨_,Z,.inl (aaZ (λz=>AV.c (.int .i64 z)) e7)⟩,⟨_,Z,⟨_,Z,Z⟩⟩,⟨_,Z,.inl Z⟩,⟨_,Z,⟨_,Z,Z⟩⟩,⟨_,Z,⟨_,Z,Z⟩⟩,trivial⟩ ⟨ce,⟨_,_,Z,Z,⟨_,_,Z,.inl Z,⟨_,_,Z,.inl Z,⟨_,_,Z,.inl Z,⟨_,_,Z,.inl Z,⟨_,_,Z,⟨_,Z,.inr ⟨_,_,Z,Z,aaZ (AV.own (.tok 5000 1) 5) hap⟩⟩,Z⟩⟩⟩⟩⟩⟩,ce,trivial⟩ Z ?_
       refine S (v,acc++[.mk K J G E C],s2,I,e2) ⟨?_,by show 0<=I;omega,by show I<=301;omega,T.2.2,N2,by show v<=_;omega⟩ (by show v<v+1;omega);show dZ (mN g) V (cR (s)) (k+1) 0=_;rw[U];simp
     rw[Lh _ _ _ _ _ he,aba]at U;rw[U];have c8:(e'==0)=false:=(by simpa using he);clear S;rcases nM ((v:Int)>0)with ⟨c7,_⟩|⟨c7,_⟩
     all_goals
      exact dq
    rw[Cc _ _ _ _ _ (.inl (by rw[H];omega))];rw[H,Q]at W;have P:=wm [] (i64.wrap (k+1)) 1 1 bn;rcases nM (bY (s)<0)with ⟨M,_⟩|⟨M,_⟩<;>rcases nM (bY (s)>0)with ⟨c6,_⟩|⟨c6,_⟩
    all_goals
     refine en func192 call192 [(0,.ptr 1000000 0),(1,.c (.int .i64 (25-((g+1:Nat):Int))))] [(1000000,[.c (.str (c::s)),.c (.int .i64 k),.c (.int .i64 0)])] [] [1000000] λβ hf=>?_
     repeat' (first|refine sz ?_|refine ze ?_ ?_|(intro h;first|(cases h;done)|rw[h]|skip)|refine kV ?_ (hq:=Y) (hok:=by exact⟨_,_,_,Z,Z,⟨_,_,Z,Z,⟨_,_,Z,Z,⟨_,_,Z,Z,Z⟩⟩⟩,Z⟩)|refine kV ?_ (hq:=W) (hok:=by exact⟨_,_,_,Z,Z,⟨_,_,Z,Z,⟨_,_,Z,Z,⟨_,_,Z,Z,Z⟩⟩⟩,Z⟩)|refine kV ?_ (hq:=P) (hok:=by exact⟨_,_,_,Z,Z,⟨_,_,Z,Z,⟨_,_,Z,Z,⟨_,_,Z,Z,Z⟩⟩⟩,⟨_,_,Z,Z,Z⟩⟩)|(refine uA Z ?_ ?_<;>(try (show(_:Nat)*_<=_;dsimp only))))
     refine AK.dI (α:=Unit) (λ_=>True) (λ_=>0)
      (λ_=>[(7,.c (.int .i64 (bY (s)))),(0,.ptr 1000000 0),(1,.c (.int .i64 (25-((g+1:Nat):Int)))),(4,.ptr 4 0),(5,.ptr 5 0)])
      (λ_=>[(4,[.c (.int .i64 0),.c (.int .i64 0),.c (.int .i64 0),.c (.str []),.own .exact 5 []]),(5,[.c (.int .i64 ((3:Nat):Int)),.c (.int .i64 0),.c (.int .i64 0),.c (.str []),.own .exact 5 []]),(1000000,[.c (.str []),.c (.int .i64 (i64.wrap (k+1))),.c (.int .i64 1)])]) (λ_=>[]) [4,5,1000000] ()
      trivial ce ⟨Z,Z,Z,trivial⟩ trivial Z Z Z ?_
     rintro _ _ S;clear S
     repeat' (first|refine sz ?_|refine ze ?_ ?_|(intro h;first|(cases h;done)|rw[h]|skip)|(refine uA Z ?_ ?_<;>(try (show(_:Nat)*_<=_;dsimp only))))
     all_goals first|rfl|(rw[B])
   rw[VU _ _ _ _ bn];have f0:((q:Int)==0)=false:=(by simpa using q0);have f1:((q:Int)==1)=false:=(by simp;omega);have f2:((q:Int)==2)=false:=(by simp;omega);have f3:((q:Int)==3)=false:=(by simp;omega);have h3:=tg (i64.wrap (k+1)) 1 bn;have P:=iz s (i64.wrap (k+1)) 1;refine en func192 call192 [(0,.ptr 1000000 0),(1,.c (.int .i64 (25-((g+1:Nat):Int))))] [(1000000,[.c (.str (c::s)),.c (.int .i64 k),.c (.int .i64 0)])] [] [1000000] λβ hf=>?_
   repeat' (first|refine sz ?_|refine ze ?_ ?_|(intro h;first|(cases h;done)|rw[h]|skip)|refine kV ?_ (hq:=Y) (hok:=by exact⟨_,_,_,Z,Z,⟨_,_,Z,Z,⟨_,_,Z,Z,⟨_,_,Z,Z,Z⟩⟩⟩,Z⟩)|refine kV ?_ (hq:=h3) (hok:=by exact⟨_,_,_,Z,Z,⟨_,_,Z,Z,⟨_,_,Z,Z,⟨_,_,Z,Z,Z⟩⟩⟩,Z⟩)|refine kV ?_ (hq:=P) (hok:=by exact⟨_,_,_,Z,Z,⟨_,_,Z,Z,⟨_,_,Z,Z,⟨_,_,Z,Z,Z⟩⟩⟩,⟨_,_,Z,Z,Z⟩⟩)|(refine uA Z ?_ ?_<;>(try (show(_:Nat)*_<=_;dsimp only))))
   refine AK.dI (α:=Unit) (λ_=>True) (λ_=>0)
    (λ_=>[(7,.c (.int .i64 0)),(0,.ptr 1000000 0),(1,.c (.int .i64 (25-((g+1:Nat):Int)))),(4,.ptr 4 0),(5,.ptr 5 0)])
    (λ_=>[(4,[.c (.int .i64 0),.c (.int .i64 0),.c (.int .i64 0),.c (.str []),.own .exact 5 []]),(5,[.c (.int .i64 (q:Int)),.c (.int .i64 0),.c (.int .i64 0),.c (.str []),.own .exact 5 []]),(1000000,[.c (.str []),.c (.int .i64 (i64.wrap (k+1))),.c (.int .i64 1)])]) (λ_=>[]) [4,5,1000000] ()
    trivial ce ⟨Z,Z,Z,trivial⟩ trivial Z Z Z ?_
   rintro _ _ S;clear S
   repeat' (first|refine sz ?_|refine ze ?_ ?_|(intro h;first|(cases h;done)|rw[h]|skip)|(refine uA Z ?_ ?_<;>(try (show(_:Nat)*_<=_;dsimp only))))
   all_goals first|rfl|(rw[B])
attribute [local irreducible] eL
def NP(s:L UInt8):eL s=match eT 24 s 300 with
 |.no e=>(oF,e)
 |.ok n r _=>if r=[]then(n,0)else(oF,1):=by unfold eL;rfl
def GC(s:L UInt8):af 185 [.str s] (.fG [aS (eL s).1,.int .i64 (eL s).2]):=by
 have h1:=zp 24 s 0 bn bn bn;have V:=Lf 24 s 300 bn;rw[show(300:Int)-((300:Nat):Int)=0 from rfl]at V;rw[show(25:Int)-((24:Nat):Int)=1 from rfl]at h1;rw[NP];cases A:eT 24 s 300 with
 |no e =>
  rw[A]at V;simp only[q8]at V;rcases O:mN 24 s 0 with ⟨⟨W,N,p,B,C⟩,s2,k2,e2⟩
  rw[O]at h1 V;simp only at h1 V;obtain⟨rfl,rfl,Y⟩:=V;have U:(e2==0)=false:=by simpa using Y
  have M:(e2 != 0)=true:=by simpa using Y
  exact qdq func185 call185
 |ok n r l =>
  rw[A]at V;simp only[q8]at V;rw[V.1]at h1;simp only at h1;obtain⟨W,N,p,B,C⟩:=n;cases r with
  |nil =>
   exact qdq func185 call185
  |cons c r =>
   have h2:=iz (c::r) (300-(l:Int)) 1;exact qdq func185 call185
end Go.Proofs
