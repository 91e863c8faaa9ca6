/- What node of package tree's reader and Decode answer. -/
import Derived.Test.YtdnpapgijbhofaaGreatDoorTree4
open Go.IntKind
open Go.Proofs.Tryz
set_option linter.defProp false
set_option maxHeartbeats 0
set_option linter.unusedVariables false
set_option linter.unusedSimpArgs false
set_option maxRecDepth 100000
namespace Go.Proofs
open Go.cw
def Zr(s:L UInt8)(k:Int):oV 0 s k=⟨vw,[],k+1,4⟩:=rfl
def Zs(g:Nat)(s:L UInt8)(k:Int)(h:k+1>300):oV (g+1) s k=⟨vw,[],k+1,4⟩:=by simp only[oV,if_pos h]
def abM(g:Nat)(k:Int)(h:¬(k+1>300)):oV (g+1) [] k=⟨vw,[],k+1,1⟩:=by simp only[oV,if_neg h]
def Zt(g:Nat)(c:UInt8)(s:L UInt8)(k:Int)(h:¬(k+1>300)):oV (g+1) (c::s) k=ju (oV g) c.toNat s (k+1):=by simp only[oV,if_neg h]
def agx(f:L UInt8->Int->RX)(s:L UInt8)(k:Int):ju f 0 s k=⟨.mk 0 (cy s) 0 [] [],dH s,k,ko s⟩:=rfl
def VV(f:L UInt8->Int->RX)(s:L UInt8)(k:Int)(h:cy s<0\/cy s>200\/cy s>(dH s).length):ju f 1 s k=⟨.mk 1 0 0 [] [],[],k,1⟩:=by simp only[ju,if_pos h];rfl
def SB(f:L UInt8->Int->RX)(s:L UInt8)(k:Int)(h:¬(cy s<0\/cy s>200\/cy s>(dH s).length)):ju f 1 s k=⟨.mk 1 0 0 ((dH s).take (cy s).toNat) [],(dH s).drop (cy s).toNat,k,ko s⟩:=by simp only[ju,if_neg h];rfl
def VW(f:L UInt8->Int->RX)(k:Int):ju f 2 [] k=⟨.mk 2 0 0 [] [],[],k,1⟩:=rfl
def SC(f:L UInt8->Int->RX)(p:UInt8)(s:L UInt8)(k:Int)(h:tL p.toNat=true):ju f 2 (p::s) k=j6 f 2 p.toNat s k:=by simp[ju,h]
def VX(f:L UInt8->Int->RX)(p:UInt8)(s:L UInt8)(k:Int)(h:tL p.toNat=false):ju f 2 (p::s) k=⟨.mk 2 0 p.toNat [] [],[],k,1⟩:=by simp[ju,h]
def agy(f:L UInt8->Int->RX)(s:L UInt8)(k:Int):ju f 3 s k=j6 f 3 0 s k:=rfl
def abN(f:L UInt8->Int->RX)(c:Nat)(s:L UInt8)(k:Int)(h:c>3):ju f c s k=⟨.mk c 0 0 [] [],[],k,1⟩:=by simp only[ju];rw[if_neg ai,if_neg ai,if_neg ai,if_neg ai]
def Fv(f:L UInt8->Int->RX)(Y p:Int)(s:L UInt8)(k:Int)(h:ko s≠0\/cy s<0):j6 f Y p s k=⟨.mk Y 0 p [] [],[],k,1⟩:=by simp only[j6,if_pos h]
def Ug(f:L UInt8->Int->RX)(Y p:Int)(s:L UInt8)(k:Int)(h:¬(ko s≠0\/cy s<0)):j6 f Y p s k=⟨.mk Y 0 p [] (eN f (cy s).toNat (dH s) k 0).1,(eN f (cy s).toNat (dH s) k 0).2.1,(eN f (cy s).toNat (dH s) k 0).2.2.1,(eN f (cy s).toNat (dH s) k 0).2.2.2⟩:=by simp only[j6,if_neg h]
def Kr(f:L UInt8->Int->RX)(s:L UInt8)(k e:Int):eN f 0 s k e=([],s,k,e):=rfl
def PV(f:L UInt8->Int->RX)(v:Nat)(s:L UInt8)(k e:Int)(h:e≠0):eN f v s k e=([],s,k,e):=by
 cases v with
 |zero=>rfl
 |succ v=>simp only[eN,if_pos h]
def Ks(f:L UInt8->Int->RX)(v:Nat)(s:L UInt8)(k:Int):eN f (v+1) s k 0=((f s k).n::(eN f v (f s k).s (f s k).k (f s k).e).1,(eN f v (f s k).s (f s k).k (f s k).e).2):=by simp[eN]
def Ct{s:L UInt8}(h:ko s=0) : -bJ<=cy s/\cy s<=bJ:=by
 cases B:fL s with
 |none=>rw[(lp B).2]at h;simp at h
 |some x =>
  rw[(vq B).1];exact(oS B).2
def wv(s:L UInt8):ko s=0\/ko s=1/\dH s=[]:=by
 cases B:fL s with
 |none=>right;exact⟨(lp B).2,(lp B).1⟩
 |some x=>left;exact(vq B).2.2
section
attribute [local irreducible] AK ah
def wA(k e:Int)(O:e≠0):hJ 198 [.box [.c (.str []),.c (.int .i64 k),.c (.int .i64 e)]] [.c (.int .i64 0)] [(0,[.c (.str []),.c (.int .i64 k),.c (.int .i64 e)])]:=by
 have h1:=PU k e O;refine en func198 call198 [(0,.ptr 1000000 0)] [(1000000,[.c (.str []),.c (.int .i64 k),.c (.int .i64 e)])] [] [1000000] λβ hf=>?_
 repeat' (first|refine sz ?_|refine ze ?_ ?_|(intro h;first|(cases h;done)|rw[h]|skip)|refine nv ?_ (hq:=h1))
 refine AK.dN (α:=Unit) (λ_=>True) (λ_=>0)
  (λ_=>[(3,.c (.int .i64 0)),(4,.c (.bool (decide ((0:Nat)/64%2=1)))),(5,.c (.int .i64 ((0%64:Nat):Int))),(0,.ptr 1000000 0)])
  (λ_=>[(1000000,[.c (.str []),.c (.int .i64 k),.c (.int .i64 e)])]) (λ_=>[]) [1000000] ()
  trivial ⟨.inl Z,.inl (aeM (λz=>some (AV.c (CV.bool z))) (Wh (c:=0) ai)),.inl (aeM (λz=>some (AV.c (CV.int .i64 z))) (MN (a:=0) ai)),.inl Z,trivial⟩ ⟨Z,trivial⟩ trivial Z Z Z ?_
 rintro _ _ Y;clear Y;exact dq
end
attribute [local irreducible] AK ah aR bM oV ju j6 eN cy dH ko tL
def Cu:∀(g:Nat)(s:L UInt8)(k:Int),g<=24->0<=k->k<=300 ->
  hJ 192 [.box [.c (.str s),.c (.int .i64 k),.c (.int .i64 0)],.v (.c (.int .i64 (25-(g:Int))))] [.c (aM (oV g s k).n)] [(0,[.c (.str (oV g s k).s),.c (.int .i64 (oV g s k).k),.c (.int .i64 (oV g s k).e)])]
 |0,s,k,hg,FA,hk=>by
  rw[Zr];have E:i64.wrap (k+1)=k+1:=iB ai ai;have h1:=jL s (k+1) 4;rw[<- E]at h1;refine en func192 call192 [(0,.ptr 1000000 0),(1,.c (.int .i64 25))] [(1000000,[.c (.str s),.c (.int .i64 k),.c (.int .i64 0)])] [] [1000000] λβ hf=>?_
  repeat' (first|refine sz ?_|refine ze ?_ ?_|(intro h;first|(cases h;done)|rw[h]|skip)|refine nv ?_ (hq:=h1) (hok:=by exact⟨_,_,_,Z,Z,⟨_,_,Z,Z,⟨_,_,Z,Z,⟨_,_,Z,Z,Z⟩⟩⟩,⟨_,_,Z,Z,Z⟩⟩)|(refine uA Z ?_ ?_<;>(try (show(_:Nat)*_<=_;dsimp only))))
  all_goals first|rfl|(rw[E])
 |g+1,s,k,hg,FA,hk=>by
  have E:i64.wrap (k+1)=k+1:=iB ai ai;have hin:∀(N:L UInt8)(k':Int),0<=k'->k'<=300->hJ 192 [.box [.c (.str N),.c (.int .i64 k'),.c (.int .i64 0)],.v (.c (.int .i64 (i64.wrap (25-((g+1:Nat):Int)+1))))] [.c (aM (oV g N k').n)] [(0,[.c (.str (oV g N k').s),.c (.int .i64 (oV g N k').k),.c (.int .i64 (oV g N k').e)])]:=by intro N k' h0 h1;rw[iB ai ai,show(25-((g+1:Nat):Int)+1)=25-(g:Int)from by omega];exact Cu g N k' ai h0 h1
  have c0:decide ((25-((g+1:Nat):Int))>24)=false:=aaY ai;by_cases PW:k+1>300
  ·rw[Zs _ _ _ PW];have c1:decide (i64.wrap (k+1)>300)=true:=aaX (by rw[E];exact PW);have h1:=jL s (i64.wrap (k+1)) 4;refine en func192 call192 [(0,.ptr 1000000 0),(1,.c (.int .i64 (25-((g+1:Nat):Int))))] [(1000000,[.c (.str s),.c (.int .i64 k),.c (.int .i64 0)])] [] [1000000] λβ hf=>?_
   repeat' (first|refine sz ?_|refine ze ?_ ?_|(intro h;first|(cases h;done)|rw[h]|skip)|refine nv ?_ (hq:=h1) (hok:=by exact⟨_,_,_,Z,Z,⟨_,_,Z,Z,⟨_,_,Z,Z,⟨_,_,Z,Z,Z⟩⟩⟩,⟨_,_,Z,Z,Z⟩⟩)|(refine uA Z ?_ ?_<;>(try (show(_:Nat)*_<=_;dsimp only))))
   all_goals first|rfl|(rw[E])
  have c1:decide (i64.wrap (k+1)>300)=false:=aaY (by rw[E];exact PW);cases s with
  |nil =>
   rw[abM _ _ PW];have h1:=Cs (i64.wrap (k+1));have h2:=wA (i64.wrap (k+1)) 1 ai;refine en func192 call192 [(0,.ptr 1000000 0),(1,.c (.int .i64 (25-((g+1:Nat):Int))))] [(1000000,[.c (.str []),.c (.int .i64 k),.c (.int .i64 0)])] [] [1000000] λβ hf=>?_
   repeat' (first|refine sz ?_|refine ze ?_ ?_|(intro h;first|(cases h;done)|rw[h]|skip)|refine nv ?_ (hq:=h1) (hok:=by exact⟨_,_,_,Z,Z,⟨_,_,Z,Z,⟨_,_,Z,Z,⟨_,_,Z,Z,Z⟩⟩⟩,Z⟩)|refine nv ?_ (hq:=h2) (hok:=by exact⟨_,_,_,Z,Z,⟨_,_,Z,Z,⟨_,_,Z,Z,⟨_,_,Z,Z,Z⟩⟩⟩,Z⟩)|(refine uA Z ?_ ?_<;>(try (show(_:Nat)*_<=_;dsimp only))))
   all_goals first|rfl|(rw[E])
  |cons c s =>
   rw[Zt _ _ _ _ PW];have Y:=zU c s (i64.wrap (k+1)) 0;have hcb:=c.toNat_lt;generalize hq:c.toNat=q at Y hcb;by_cases q0:q=0
   ·subst q0;rw[agx];have U:=rq s (i64.wrap (k+1));refine en func192 call192 [(0,.ptr 1000000 0),(1,.c (.int .i64 (25-((g+1:Nat):Int))))] [(1000000,[.c (.str (c::s)),.c (.int .i64 k),.c (.int .i64 0)])] [] [1000000] λβ hf=>?_
    repeat' (first|refine sz ?_|refine ze ?_ ?_|(intro h;first|(cases h;done)|rw[h]|skip)|refine nv ?_ (hq:=Y) (hok:=by exact⟨_,_,_,Z,Z,⟨_,_,Z,Z,⟨_,_,Z,Z,⟨_,_,Z,Z,Z⟩⟩⟩,Z⟩)|refine nv ?_ (hq:=U) (hok:=by exact⟨_,_,_,Z,Z,⟨_,_,Z,Z,⟨_,_,Z,Z,⟨_,_,Z,Z,Z⟩⟩⟩,Z⟩)|(refine uA Z ?_ ?_<;>(try (show(_:Nat)*_<=_;dsimp only))))
    all_goals first|rfl|(rw[E])
   by_cases q1:q=1
   ·subst q1;have U:=rq s (i64.wrap (k+1));by_cases agz:cy s<0\/cy s>200\/cy s>(dH s).length
    ·rw[VV _ _ _ agz];have T:hJ 193 [.box [.c (.str (dH s)),.c (.int .i64 (i64.wrap (k+1))),.c (.int .i64 (ko s))],.v (.c (.int .i64 1))] [] [(0,[.c (.str []),.c (.int .i64 (i64.wrap (k+1))),.c (.int .i64 1)])]:=by
      rcases wv s with O|⟨O,Q⟩
      rw[O];exact jL _ _ _;rw[O,Q];exact zT _ _ _ _ ai
     rcases qf (cy s<0)with ⟨d1,b1⟩|⟨d1,b1⟩<;>rcases qf (cy s>200)with ⟨d2,b2⟩|⟨d2,b2⟩<;>rcases qf (cy s>(dH s).length)with ⟨d3,b3⟩|⟨d3,b3⟩
     all_goals first|(exfalso;omega)|skip
     all_goals
      refine en func192 call192 [(0,.ptr 1000000 0),(1,.c (.int .i64 (25-((g+1:Nat):Int))))] [(1000000,[.c (.str (c::s)),.c (.int .i64 k),.c (.int .i64 0)])] [] [1000000] λβ hf=>?_
      repeat' (first|refine sz ?_|refine ze ?_ ?_|(intro h;first|(cases h;done)|rw[h]|skip)|refine nv ?_ (hq:=Y) (hok:=by exact⟨_,_,_,Z,Z,⟨_,_,Z,Z,⟨_,_,Z,Z,⟨_,_,Z,Z,Z⟩⟩⟩,Z⟩)|refine nv ?_ (hq:=U) (hok:=by exact⟨_,_,_,Z,Z,⟨_,_,Z,Z,⟨_,_,Z,Z,⟨_,_,Z,Z,Z⟩⟩⟩,Z⟩)|refine nv ?_ (hq:=T) (hok:=by exact⟨_,_,_,Z,Z,⟨_,_,Z,Z,⟨_,_,Z,Z,⟨_,_,Z,Z,Z⟩⟩⟩,⟨_,_,Z,Z,Z⟩⟩)|(refine uA Z ?_ ?_<;>(try (show(_:Nat)*_<=_;dsimp only))))
      all_goals first|rfl|(rw[E])
    rw[SB _ _ _ agz];have d1:decide (cy s<0)=false:=aaY ai;have d2:decide (cy s>200)=false:=aaY ai;have d3:decide (cy s>(dH s).length)=false:=aaY ai;obtain⟨v,hv⟩:∃v:Nat,cy s=v:=⟨(cy s).toNat,ai⟩;have hvl:v<=(dH s).length:=(by omega);rw[hv]at U d1 d2 d3 ⊢;have d12:(bif decide ((v:Int)<0)then true else decide ((v:Int)>200))=false:=(by rw[d1,d2];rfl);refine en func192 call192 [(0,.ptr 1000000 0),(1,.c (.int .i64 (25-((g+1:Nat):Int))))] [(1000000,[.c (.str (c::s)),.c (.int .i64 k),.c (.int .i64 0)])] [] [1000000] λβ hf=>?_
    repeat' (first|refine sz ?_|refine ze ?_ ?_|(intro h;first|(cases h;done)|rw[h]|skip)|refine nv ?_ (hq:=Y) (hok:=by exact⟨_,_,_,Z,Z,⟨_,_,Z,Z,⟨_,_,Z,Z,⟨_,_,Z,Z,Z⟩⟩⟩,Z⟩)|refine nv ?_ (hq:=U) (hok:=by exact⟨_,_,_,Z,Z,⟨_,_,Z,Z,⟨_,_,Z,Z,⟨_,_,Z,Z,Z⟩⟩⟩,Z⟩)|refine ah.GY hX kn Z Z Z Z Z Z (l:=none) (h:=some v) Z Z hvl (aeW _) ?_|refine ah.GY hX kn Z Z Z Z Z Z (l:=some v) (h:=none) Z Z (aaV _) hvl ?_|(refine uA Z ?_ ?_<;>(try (show(_:Nat)*_<=_;dsimp only))))
    all_goals first|rfl|(rw[E];done)|(rw[E];simp;done)|(simp[E];done)
   by_cases q2:q=2
   ·subst q2;cases s with
    |nil =>
     rw[VW];have h1:=PU (i64.wrap (k+1)) 1 ai;have h2:=Cs (i64.wrap (k+1));have hp0:tL 0=false:=(by decide +kernel);have K:=nK 0;rw[hp0]at K;have h3:=wA (i64.wrap (k+1)) 1 ai;have T:=zT [] (i64.wrap (k+1)) 1 1 ai;refine en func192 call192 [(0,.ptr 1000000 0),(1,.c (.int .i64 (25-((g+1:Nat):Int))))] [(1000000,[.c (.str (c::[])),.c (.int .i64 k),.c (.int .i64 0)])] [] [1000000] λβ hf=>?_
     repeat' (first|refine sz ?_|refine ze ?_ ?_|(intro h;first|(cases h;done)|rw[h]|skip)|refine nv ?_ (hq:=Y) (hok:=by exact⟨_,_,_,Z,Z,⟨_,_,Z,Z,⟨_,_,Z,Z,⟨_,_,Z,Z,Z⟩⟩⟩,Z⟩)|refine nv ?_ (hq:=h2) (hok:=by exact⟨_,_,_,Z,Z,⟨_,_,Z,Z,⟨_,_,Z,Z,⟨_,_,Z,Z,Z⟩⟩⟩,Z⟩)|refine uC Z K ?_|refine nv ?_ (hq:=h3) (hok:=by exact⟨_,_,_,Z,Z,⟨_,_,Z,Z,⟨_,_,Z,Z,⟨_,_,Z,Z,Z⟩⟩⟩,Z⟩)|refine nv ?_ (hq:=T) (hok:=by exact⟨_,_,_,Z,Z,⟨_,_,Z,Z,⟨_,_,Z,Z,⟨_,_,Z,Z,Z⟩⟩⟩,⟨_,_,Z,Z,Z⟩⟩)|(refine uA Z ?_ ?_<;>(try (show(_:Nat)*_<=_;dsimp only))))
     refine AK.dN (α:=Unit) (λ_=>True) (λ_=>0)
      (λ_=>[(7,.c (.int .i64 0)),(0,.ptr 1000000 0),(1,.c (.int .i64 (25-((g+1:Nat):Int)))),(4,.ptr 4 0),(5,.ptr 5 0)])
      (λ_=>[(4,[.c (.int .i64 0),.c (.int .i64 0),.c (.int .i64 0),.c (.str []),.own .exact 5 []]),(5,[.c (.int .i64 ((2:Nat):Int)),.c (.int .i64 0),.c (.int .i64 0),.c (.str []),.own .exact 5 []]),(1000000,[.c (.str []),.c (.int .i64 (i64.wrap (k+1))),.c (.int .i64 1)])]) (λ_=>[]) [4,5,1000000] ()
      trivial ce ⟨Z,Z,Z,trivial⟩ trivial Z Z Z ?_
     rintro _ _ W;clear W
     repeat' (first|refine sz ?_|refine ze ?_ ?_|(intro h;first|(cases h;done)|rw[h]|skip)|(refine uA Z ?_ ?_<;>(try (show(_:Nat)*_<=_;dsimp only))))
     all_goals first|rfl|(rw[E])
    |cons p s =>
     have J:=zU p s (i64.wrap (k+1)) 0;have O2:=p.toNat_lt;cases hp:tL p.toNat with
     |false =>
      rw[VX _ _ _ _ hp];have K:=nK p.toNat;rw[hp]at K;have h3:=wA (i64.wrap (k+1)) 1 ai;have T:=jL s (i64.wrap (k+1)) 1;refine en func192 call192 [(0,.ptr 1000000 0),(1,.c (.int .i64 (25-((g+1:Nat):Int))))] [(1000000,[.c (.str (c::p::s)),.c (.int .i64 k),.c (.int .i64 0)])] [] [1000000] λβ hf=>?_
      repeat' (first|refine sz ?_|refine ze ?_ ?_|(intro h;first|(cases h;done)|rw[h]|skip)|refine nv ?_ (hq:=Y) (hok:=by exact⟨_,_,_,Z,Z,⟨_,_,Z,Z,⟨_,_,Z,Z,⟨_,_,Z,Z,Z⟩⟩⟩,Z⟩)|refine nv ?_ (hq:=J) (hok:=by exact⟨_,_,_,Z,Z,⟨_,_,Z,Z,⟨_,_,Z,Z,⟨_,_,Z,Z,Z⟩⟩⟩,Z⟩)|refine uC Z K ?_|refine nv ?_ (hq:=h3) (hok:=by exact⟨_,_,_,Z,Z,⟨_,_,Z,Z,⟨_,_,Z,Z,⟨_,_,Z,Z,Z⟩⟩⟩,Z⟩)|refine nv ?_ (hq:=T) (hok:=by exact⟨_,_,_,Z,Z,⟨_,_,Z,Z,⟨_,_,Z,Z,⟨_,_,Z,Z,Z⟩⟩⟩,⟨_,_,Z,Z,Z⟩⟩)|(refine uA Z ?_ ?_<;>(try (show(_:Nat)*_<=_;dsimp only))))
      refine AK.dN (α:=Unit) (λ_=>True) (λ_=>0)
       (λ_=>[(7,.c (.int .i64 0)),(0,.ptr 1000000 0),(1,.c (.int .i64 (25-((g+1:Nat):Int)))),(4,.ptr 4 0),(5,.ptr 5 0)])
       (λ_=>[(4,[.c (.int .i64 0),.c (.int .i64 0),.c (.int .i64 0),.c (.str []),.own .exact 5 []]),(5,[.c (.int .i64 ((2:Nat):Int)),.c (.int .i64 0),.c (.int .i64 ((p.toNat:Nat):Int)),.c (.str []),.own .exact 5 []]),(1000000,[.c (.str []),.c (.int .i64 (i64.wrap (k+1))),.c (.int .i64 1)])]) (λ_=>[]) [4,5,1000000] ()
       trivial ce ⟨Z,Z,Z,trivial⟩ trivial Z Z Z ?_
      rintro _ _ W;clear W
      repeat' (first|refine sz ?_|refine ze ?_ ?_|(intro h;first|(cases h;done)|rw[h]|skip)|(refine uA Z ?_ ?_<;>(try (show(_:Nat)*_<=_;dsimp only))))
      all_goals first|rfl|(rw[E])
     |true =>
      rw[SC _ _ _ _ hp];have K:=nK p.toNat;rw[hp]at K;have U:=rq (s) (i64.wrap (k+1));rcases wv (s)with O|⟨O,Q⟩
      ·have MD:=Ct O;unfold bJ at MD;rw[O]at U;by_cases u:cy (s)<0
       ·rw[Fv _ _ _ _ _ (.inr u)];have I:decide (cy (s)<0)=true:=aaX u;have c6:decide (cy (s)>0)=false:=aaY ai;have T:=jL (dH (s)) (i64.wrap (k+1)) 1;refine en func192 call192 [(0,.ptr 1000000 0),(1,.c (.int .i64 (25-((g+1:Nat):Int))))] [(1000000,[.c (.str (c::p::s)),.c (.int .i64 k),.c (.int .i64 0)])] [] [1000000] λβ hf=>?_
        repeat' (first|refine sz ?_|refine ze ?_ ?_|(intro h;first|(cases h;done)|rw[h]|skip)|refine nv ?_ (hq:=Y) (hok:=by exact⟨_,_,_,Z,Z,⟨_,_,Z,Z,⟨_,_,Z,Z,⟨_,_,Z,Z,Z⟩⟩⟩,Z⟩)|refine nv ?_ (hq:=J) (hok:=by exact⟨_,_,_,Z,Z,⟨_,_,Z,Z,⟨_,_,Z,Z,⟨_,_,Z,Z,Z⟩⟩⟩,Z⟩)|refine uC Z K ?_|refine nv ?_ (hq:=U) (hok:=by exact⟨_,_,_,Z,Z,⟨_,_,Z,Z,⟨_,_,Z,Z,⟨_,_,Z,Z,Z⟩⟩⟩,Z⟩)|refine nv ?_ (hq:=T) (hok:=by exact⟨_,_,_,Z,Z,⟨_,_,Z,Z,⟨_,_,Z,Z,⟨_,_,Z,Z,Z⟩⟩⟩,⟨_,_,Z,Z,Z⟩⟩)|(refine uA Z ?_ ?_<;>(try (show(_:Nat)*_<=_;dsimp only))))
        refine AK.dN (α:=Unit) (λ_=>True) (λ_=>0)
         (λ_=>[(7,.c (.int .i64 (cy (s)))),(0,.ptr 1000000 0),(1,.c (.int .i64 (25-((g+1:Nat):Int)))),(4,.ptr 4 0),(5,.ptr 5 0)])
         (λ_=>[(4,[.c (.int .i64 0),.c (.int .i64 0),.c (.int .i64 0),.c (.str []),.own .exact 5 []]),(5,[.c (.int .i64 ((2:Nat):Int)),.c (.int .i64 0),.c (.int .i64 ((p.toNat:Nat):Int)),.c (.str []),.own .exact 5 []]),(1000000,[.c (.str []),.c (.int .i64 (i64.wrap (k+1))),.c (.int .i64 1)])]) (λ_=>[]) [4,5,1000000] ()
         trivial ce ⟨Z,Z,Z,trivial⟩ trivial Z Z Z ?_
        rintro _ _ W;clear W
        repeat' (first|refine sz ?_|refine ze ?_ ?_|(intro h;first|(cases h;done)|rw[h]|skip)|(refine uA Z ?_ ?_<;>(try (show(_:Nat)*_<=_;dsimp only))))
        all_goals first|rfl|(rw[E])
       rw[Ug _ _ _ _ _ (by rw[O];simp;omega)];have I:decide (cy (s)<0)=false:=aaY u;obtain⟨V,hv⟩:∃v:Nat,cy (s)=v:=⟨(cy (s)).toNat,ai⟩;rw[hv]at U I;have hvt:(cy (s)).toNat=V:=(by omega);rw[hvt];refine en func192 call192 [(0,.ptr 1000000 0),(1,.c (.int .i64 (25-((g+1:Nat):Int))))] [(1000000,[.c (.str (c::p::s)),.c (.int .i64 k),.c (.int .i64 0)])] [] [1000000] λβ hf=>?_
       repeat' (first|refine sz ?_|refine ze ?_ ?_|(intro h;first|(cases h;done)|rw[h]|skip)|refine nv ?_ (hq:=Y) (hok:=by exact⟨_,_,_,Z,Z,⟨_,_,Z,Z,⟨_,_,Z,Z,⟨_,_,Z,Z,Z⟩⟩⟩,Z⟩)|refine nv ?_ (hq:=J) (hok:=by exact⟨_,_,_,Z,Z,⟨_,_,Z,Z,⟨_,_,Z,Z,⟨_,_,Z,Z,Z⟩⟩⟩,Z⟩)|refine uC Z K ?_|refine nv ?_ (hq:=U) (hok:=by exact⟨_,_,_,Z,Z,⟨_,_,Z,Z,⟨_,_,Z,Z,⟨_,_,Z,Z,Z⟩⟩⟩,Z⟩)|(refine uA Z ?_ ?_<;>(try (show(_:Nat)*_<=_;dsimp only))))
       refine AK.fY [(4,4),(5,5),(1000000,1000000)] [(5000,(0,none))] (env':=[(7,.c (.int .i64 (V:Nat))),(0,.ptr 1000000 0),(1,.c (.int .i64 (25-((g+1:Nat):Int)))),(4,.ptr 4 0),(5,.ptr 5 0)])
        (bs':=[(4,[.c (.int .i64 0),.c (.int .i64 0),.c (.int .i64 0),.c (.str []),.own .exact 5 []]),(5,[.c (.int .i64 ((2:Nat):Int)),.c (.int .i64 0),.c (.int .i64 ((p.toNat:Nat):Int)),.c (.str []),.own (.tok 5000 0) 5 []]),(1000000,[.c (.str (dH (s))),.c (.int .i64 (k+1)),.c (.int .i64 0)])]) (ts':=[(5000,0)]) (us':=[4,5,1000000,5000])
        ce  ⟨ce,ce,⟨_,_,Z,Z,⟨_,_,Z,.inl Z,⟨_,_,Z,.inl (aeM (λz=>AV.c (.int .i64 z)) E),⟨_,_,Z,.inl Z,Z⟩⟩⟩⟩,trivial⟩ Z ?_
       refine AK.dN (α:=Nat×L Nd×L UInt8×Int×Int) (λz=>eN (oV g) V (dH (s)) (k+1) 0=(z.2.1++(eN (oV g) z.1 z.2.2.1 z.2.2.2.1 z.2.2.2.2).1,(eN (oV g) z.1 z.2.2.1 z.2.2.2.1 z.2.2.2.2).2)/\0<=z.2.2.2.1/\z.2.2.2.1<=301/\(z.2.2.2.2=0->z.2.2.2.1<=300)/\(z.2.1.length:Int)<=z.2.2.2.1/\z.1<=1152921504606846976) (λz=>z.1)
        (λz=>[(7,.c (.int .i64 (z.1:Nat))),(0,.ptr 1000000 0),(1,.c (.int .i64 (25-((g+1:Nat):Int)))),(4,.ptr 4 0),(5,.ptr 5 0)])
        (λz=>[(4,[.c (.int .i64 0),.c (.int .i64 0),.c (.int .i64 0),.c (.str []),.own .exact 5 []]),(5,[.c (.int .i64 ((2:Nat):Int)),.c (.int .i64 0),.c (.int .i64 ((p.toNat:Nat):Int)),.c (.str []),.own (.tok 5000 0) 5 (aD z.2.1)]),(1000000,[.c (.str z.2.2.1),.c (.int .i64 z.2.2.2.1),.c (.int .i64 z.2.2.2.2)])]) (λ_=>[(5000,0)]) [4,5,1000000,5000] (V,[],dH (s),k+1,0)
        ⟨cc,by show 0<=k+1;omega,by show k+1<=301;omega,λ_=>by show k+1<=300;omega,by show(0:Int)<=k+1;omega,by show V<=_;omega⟩ ce ⟨Z,Z,Z,trivial⟩ ⟨Z,trivial⟩ Z Z Z ?_
       rintro⟨v,acc,N,k',e'⟩ ⟨H,SD,hk',Wd,Qk,aed⟩ W;simp only at H SD hk' Wd Qk aed;by_cases he:e'=0
       ·subst he;have P:=Wd Z;cases v with
        |zero =>
         rw[Kr,aeO]at H;rw[H];clear W;exact dq
        |succ v =>
         have c7:decide (((v+1:Nat):Int)>0)=true:=aaX ai;have hq:=hin N k' SD P;have S:=Sz g N k' SD P;rw[Ks]at H;rcases hx:oV g N k' with ⟨⟨G,A,D,C,B⟩,s2,M,e2⟩
         rw[hx]at hq S H;simp only at hq S H;have e7:i64.wrap (((v+1:Nat):Int)-1)=(v:Int):=by rw[iB ai ai];omega
         repeat' (first|refine sz ?_|refine ze ?_ ?_|(intro h;first|(cases h;done)|rw[h]|skip)|refine nv ?_ (hq:=hq) (hok:=by exact⟨_,_,_,Z,Z,⟨_,_,Z,Z,⟨_,_,Z,Z,⟨_,_,Z,Z,Z⟩⟩⟩,⟨_,_,Z,Z,Z⟩⟩)|(refine uA Z ?_ ?_<;>(try (show(_:Nat)*_<=_;dsimp only))))
         have h1:=aZ acc;simp only[aag,aay];omega;have hap:aD acc++[aM (.mk G A D C B)]=aD (acc++[.mk G A D C B]):=(ng acc [_]).symm;refine AK.fY [(4,4),(5,5),(1000000,1000000)] [(5000,(0,some 5000))] (env':=[(7,.c (.int .i64 (v:Nat))),(0,.ptr 1000000 0),(1,.c (.int .i64 (25-((g+1:Nat):Int)))),(4,.ptr 4 0),(5,.ptr 5 0)])
          (bs':=[(4,[.c (.int .i64 0),.c (.int .i64 0),.c (.int .i64 0),.c (.str []),.own .exact 5 []]),(5,[.c (.int .i64 ((2:Nat):Int)),.c (.int .i64 0),.c (.int .i64 ((p.toNat:Nat):Int)),.c (.str []),.own (.tok 5000 0) 5 (aD (acc++[.mk G A D C B]))]),(1000000,[.c (.str s2),.c (.int .i64 M),.c (.int .i64 e2)])]) (ts':=[(5000,0)]) (us':=[4,5,1000000,5000])
          ⟨⟨_,Z,.inl (aeM (λz=>AV.c (.int .i64 z)) e7)⟩,⟨_,Z,⟨_,Z,Z⟩⟩,⟨_,Z,.inl Z⟩,⟨_,Z,⟨_,Z,Z⟩⟩,⟨_,Z,⟨_,Z,Z⟩⟩,trivial⟩ ⟨ce,⟨_,_,Z,Z,⟨_,_,Z,.inl Z,⟨_,_,Z,.inl Z,⟨_,_,Z,.inl Z,⟨_,_,Z,.inl Z,⟨_,_,Z,⟨_,Z,.inr ⟨_,_,Z,Z,aeM (AV.own (.tok 5000 1) 5) hap⟩⟩,Z⟩⟩⟩⟩⟩⟩,ce,trivial⟩ Z ?_
         refine W (v,acc++[.mk G A D C B],s2,M,e2) ⟨?_,by show 0<=M;omega,by show M<=301;omega,S.2.2,WZ,by show v<=_;omega⟩ (by show v<v+1;omega);show eN (oV g) V (dH (s)) (k+1) 0=_;rw[H];simp
       rw[PV _ _ _ _ _ he,aeO]at H;rw[H];have c8:(e'==0)=false:=(by simpa using he);clear W;rcases qf ((v:Int)>0)with ⟨c7,_⟩|⟨c7,_⟩
       all_goals
        exact dq
      rw[Fv _ _ _ _ _ (.inl (by rw[O];omega))];rw[O,Q]at U;have T:=zT [] (i64.wrap (k+1)) 1 1 ai;rcases qf (cy (s)<0)with ⟨I,_⟩|⟨I,_⟩<;>rcases qf (cy (s)>0)with ⟨c6,_⟩|⟨c6,_⟩
      all_goals
       refine en func192 call192 [(0,.ptr 1000000 0),(1,.c (.int .i64 (25-((g+1:Nat):Int))))] [(1000000,[.c (.str (c::p::s)),.c (.int .i64 k),.c (.int .i64 0)])] [] [1000000] λβ hf=>?_
       repeat' (first|refine sz ?_|refine ze ?_ ?_|(intro h;first|(cases h;done)|rw[h]|skip)|refine nv ?_ (hq:=Y) (hok:=by exact⟨_,_,_,Z,Z,⟨_,_,Z,Z,⟨_,_,Z,Z,⟨_,_,Z,Z,Z⟩⟩⟩,Z⟩)|refine nv ?_ (hq:=J) (hok:=by exact⟨_,_,_,Z,Z,⟨_,_,Z,Z,⟨_,_,Z,Z,⟨_,_,Z,Z,Z⟩⟩⟩,Z⟩)|refine uC Z K ?_|refine nv ?_ (hq:=U) (hok:=by exact⟨_,_,_,Z,Z,⟨_,_,Z,Z,⟨_,_,Z,Z,⟨_,_,Z,Z,Z⟩⟩⟩,Z⟩)|refine nv ?_ (hq:=T) (hok:=by exact⟨_,_,_,Z,Z,⟨_,_,Z,Z,⟨_,_,Z,Z,⟨_,_,Z,Z,Z⟩⟩⟩,⟨_,_,Z,Z,Z⟩⟩)|(refine uA Z ?_ ?_<;>(try (show(_:Nat)*_<=_;dsimp only))))
       refine AK.dN (α:=Unit) (λ_=>True) (λ_=>0)
        (λ_=>[(7,.c (.int .i64 (cy (s)))),(0,.ptr 1000000 0),(1,.c (.int .i64 (25-((g+1:Nat):Int)))),(4,.ptr 4 0),(5,.ptr 5 0)])
        (λ_=>[(4,[.c (.int .i64 0),.c (.int .i64 0),.c (.int .i64 0),.c (.str []),.own .exact 5 []]),(5,[.c (.int .i64 ((2:Nat):Int)),.c (.int .i64 0),.c (.int .i64 ((p.toNat:Nat):Int)),.c (.str []),.own .exact 5 []]),(1000000,[.c (.str []),.c (.int .i64 (i64.wrap (k+1))),.c (.int .i64 1)])]) (λ_=>[]) [4,5,1000000] ()
        trivial ce ⟨Z,Z,Z,trivial⟩ trivial Z Z Z ?_
       rintro _ _ W;clear W
       repeat' (first|refine sz ?_|refine ze ?_ ?_|(intro h;first|(cases h;done)|rw[h]|skip)|(refine uA Z ?_ ?_<;>(try (show(_:Nat)*_<=_;dsimp only))))
       all_goals first|rfl|(rw[E])
   by_cases q3:q=3
   ·subst q3;rw[agy];have U:=rq (s) (i64.wrap (k+1));rcases wv (s)with O|⟨O,Q⟩
    ·have MD:=Ct O;unfold bJ at MD;rw[O]at U;by_cases u:cy (s)<0
     ·rw[Fv _ _ _ _ _ (.inr u)];have I:decide (cy (s)<0)=true:=aaX u;have c6:decide (cy (s)>0)=false:=aaY ai;have T:=jL (dH (s)) (i64.wrap (k+1)) 1;refine en func192 call192 [(0,.ptr 1000000 0),(1,.c (.int .i64 (25-((g+1:Nat):Int))))] [(1000000,[.c (.str (c::s)),.c (.int .i64 k),.c (.int .i64 0)])] [] [1000000] λβ hf=>?_
      repeat' (first|refine sz ?_|refine ze ?_ ?_|(intro h;first|(cases h;done)|rw[h]|skip)|refine nv ?_ (hq:=Y) (hok:=by exact⟨_,_,_,Z,Z,⟨_,_,Z,Z,⟨_,_,Z,Z,⟨_,_,Z,Z,Z⟩⟩⟩,Z⟩)|refine nv ?_ (hq:=U) (hok:=by exact⟨_,_,_,Z,Z,⟨_,_,Z,Z,⟨_,_,Z,Z,⟨_,_,Z,Z,Z⟩⟩⟩,Z⟩)|refine nv ?_ (hq:=T) (hok:=by exact⟨_,_,_,Z,Z,⟨_,_,Z,Z,⟨_,_,Z,Z,⟨_,_,Z,Z,Z⟩⟩⟩,⟨_,_,Z,Z,Z⟩⟩)|(refine uA Z ?_ ?_<;>(try (show(_:Nat)*_<=_;dsimp only))))
      refine AK.dN (α:=Unit) (λ_=>True) (λ_=>0)
       (λ_=>[(7,.c (.int .i64 (cy (s)))),(0,.ptr 1000000 0),(1,.c (.int .i64 (25-((g+1:Nat):Int)))),(4,.ptr 4 0),(5,.ptr 5 0)])
       (λ_=>[(4,[.c (.int .i64 0),.c (.int .i64 0),.c (.int .i64 0),.c (.str []),.own .exact 5 []]),(5,[.c (.int .i64 ((3:Nat):Int)),.c (.int .i64 0),.c (.int .i64 0),.c (.str []),.own .exact 5 []]),(1000000,[.c (.str []),.c (.int .i64 (i64.wrap (k+1))),.c (.int .i64 1)])]) (λ_=>[]) [4,5,1000000] ()
       trivial ce ⟨Z,Z,Z,trivial⟩ trivial Z Z Z ?_
      rintro _ _ W;clear W
      repeat' (first|refine sz ?_|refine ze ?_ ?_|(intro h;first|(cases h;done)|rw[h]|skip)|(refine uA Z ?_ ?_<;>(try (show(_:Nat)*_<=_;dsimp only))))
      all_goals first|rfl|(rw[E])
     rw[Ug _ _ _ _ _ (by rw[O];simp;omega)];have I:decide (cy (s)<0)=false:=aaY u;obtain⟨V,hv⟩:∃v:Nat,cy (s)=v:=⟨(cy (s)).toNat,ai⟩;rw[hv]at U I;have hvt:(cy (s)).toNat=V:=(by omega);rw[hvt];refine en func192 call192 [(0,.ptr 1000000 0),(1,.c (.int .i64 (25-((g+1:Nat):Int))))] [(1000000,[.c (.str (c::s)),.c (.int .i64 k),.c (.int .i64 0)])] [] [1000000] λβ hf=>?_
     repeat' (first|refine sz ?_|refine ze ?_ ?_|(intro h;first|(cases h;done)|rw[h]|skip)|refine nv ?_ (hq:=Y) (hok:=by exact⟨_,_,_,Z,Z,⟨_,_,Z,Z,⟨_,_,Z,Z,⟨_,_,Z,Z,Z⟩⟩⟩,Z⟩)|refine nv ?_ (hq:=U) (hok:=by exact⟨_,_,_,Z,Z,⟨_,_,Z,Z,⟨_,_,Z,Z,⟨_,_,Z,Z,Z⟩⟩⟩,Z⟩)|(refine uA Z ?_ ?_<;>(try (show(_:Nat)*_<=_;dsimp only))))
     refine AK.fY [(4,4),(5,5),(1000000,1000000)] [(5000,(0,none))] (env':=[(7,.c (.int .i64 (V:Nat))),(0,.ptr 1000000 0),(1,.c (.int .i64 (25-((g+1:Nat):Int)))),(4,.ptr 4 0),(5,.ptr 5 0)])
      (bs':=[(4,[.c (.int .i64 0),.c (.int .i64 0),.c (.int .i64 0),.c (.str []),.own .exact 5 []]),(5,[.c (.int .i64 ((3:Nat):Int)),.c (.int .i64 0),.c (.int .i64 0),.c (.str []),.own (.tok 5000 0) 5 []]),(1000000,[.c (.str (dH (s))),.c (.int .i64 (k+1)),.c (.int .i64 0)])]) (ts':=[(5000,0)]) (us':=[4,5,1000000,5000])
      ce  ⟨ce,ce,⟨_,_,Z,Z,⟨_,_,Z,.inl Z,⟨_,_,Z,.inl (aeM (λz=>AV.c (.int .i64 z)) E),⟨_,_,Z,.inl Z,Z⟩⟩⟩⟩,trivial⟩ Z ?_
     refine AK.dN (α:=Nat×L Nd×L UInt8×Int×Int) (λz=>eN (oV g) V (dH (s)) (k+1) 0=(z.2.1++(eN (oV g) z.1 z.2.2.1 z.2.2.2.1 z.2.2.2.2).1,(eN (oV g) z.1 z.2.2.1 z.2.2.2.1 z.2.2.2.2).2)/\0<=z.2.2.2.1/\z.2.2.2.1<=301/\(z.2.2.2.2=0->z.2.2.2.1<=300)/\(z.2.1.length:Int)<=z.2.2.2.1/\z.1<=1152921504606846976) (λz=>z.1)
      (λz=>[(7,.c (.int .i64 (z.1:Nat))),(0,.ptr 1000000 0),(1,.c (.int .i64 (25-((g+1:Nat):Int)))),(4,.ptr 4 0),(5,.ptr 5 0)])
      (λz=>[(4,[.c (.int .i64 0),.c (.int .i64 0),.c (.int .i64 0),.c (.str []),.own .exact 5 []]),(5,[.c (.int .i64 ((3:Nat):Int)),.c (.int .i64 0),.c (.int .i64 0),.c (.str []),.own (.tok 5000 0) 5 (aD z.2.1)]),(1000000,[.c (.str z.2.2.1),.c (.int .i64 z.2.2.2.1),.c (.int .i64 z.2.2.2.2)])]) (λ_=>[(5000,0)]) [4,5,1000000,5000] (V,[],dH (s),k+1,0)
      ⟨cc,by show 0<=k+1;omega,by show k+1<=301;omega,λ_=>by show k+1<=300;omega,by show(0:Int)<=k+1;omega,by show V<=_;omega⟩ ce ⟨Z,Z,Z,trivial⟩ ⟨Z,trivial⟩ Z Z Z ?_
     rintro⟨v,acc,N,k',e'⟩ ⟨H,SD,hk',Wd,Qk,aed⟩ W;simp only at H SD hk' Wd Qk aed;by_cases he:e'=0
     ·subst he;have P:=Wd Z;cases v with
      |zero =>
       rw[Kr,aeO]at H;rw[H];clear W;exact dq
      |succ v =>
       have c7:decide (((v+1:Nat):Int)>0)=true:=aaX ai;have hq:=hin N k' SD P;have S:=Sz g N k' SD P;rw[Ks]at H;rcases hx:oV g N k' with ⟨⟨G,A,D,C,B⟩,s2,M,e2⟩
       rw[hx]at hq S H;simp only at hq S H;have e7:i64.wrap (((v+1:Nat):Int)-1)=(v:Int):=by rw[iB ai ai];omega
       repeat' (first|refine sz ?_|refine ze ?_ ?_|(intro h;first|(cases h;done)|rw[h]|skip)|refine nv ?_ (hq:=hq) (hok:=by exact⟨_,_,_,Z,Z,⟨_,_,Z,Z,⟨_,_,Z,Z,⟨_,_,Z,Z,Z⟩⟩⟩,⟨_,_,Z,Z,Z⟩⟩)|(refine uA Z ?_ ?_<;>(try (show(_:Nat)*_<=_;dsimp only))))
       have h1:=aZ acc;simp only[aag,aay];omega;have hap:aD acc++[aM (.mk G A D C B)]=aD (acc++[.mk G A D C B]):=(ng acc [_]).symm;refine AK.fY [(4,4),(5,5),(1000000,1000000)] [(5000,(0,some 5000))] (env':=[(7,.c (.int .i64 (v:Nat))),(0,.ptr 1000000 0),(1,.c (.int .i64 (25-((g+1:Nat):Int)))),(4,.ptr 4 0),(5,.ptr 5 0)])
        (bs':=[(4,[.c (.int .i64 0),.c (.int .i64 0),.c (.int .i64 0),.c (.str []),.own .exact 5 []]),(5,[.c (.int .i64 ((3:Nat):Int)),.c (.int .i64 0),.c (.int .i64 0),.c (.str []),.own (.tok 5000 0) 5 (aD (acc++[.mk G A D C B]))]),(1000000,[.c (.str s2),.c (.int .i64 M),.c (.int .i64 e2)])]) (ts':=[(5000,0)]) (us':=[4,5,1000000,5000])
        ⟨⟨_,Z,.inl (aeM (λz=>AV.c (.int .i64 z)) e7)⟩,⟨_,Z,⟨_,Z,Z⟩⟩,⟨_,Z,.inl Z⟩,⟨_,Z,⟨_,Z,Z⟩⟩,⟨_,Z,⟨_,Z,Z⟩⟩,trivial⟩ ⟨ce,⟨_,_,Z,Z,⟨_,_,Z,.inl Z,⟨_,_,Z,.inl Z,⟨_,_,Z,.inl Z,⟨_,_,Z,.inl Z,⟨_,_,Z,⟨_,Z,.inr ⟨_,_,Z,Z,aeM (AV.own (.tok 5000 1) 5) hap⟩⟩,Z⟩⟩⟩⟩⟩⟩,ce,trivial⟩ Z ?_
       refine W (v,acc++[.mk G A D C B],s2,M,e2) ⟨?_,by show 0<=M;omega,by show M<=301;omega,S.2.2,WZ,by show v<=_;omega⟩ (by show v<v+1;omega);show eN (oV g) V (dH (s)) (k+1) 0=_;rw[H];simp
     rw[PV _ _ _ _ _ he,aeO]at H;rw[H];have c8:(e'==0)=false:=(by simpa using he);clear W;rcases qf ((v:Int)>0)with ⟨c7,_⟩|⟨c7,_⟩
     all_goals
      exact dq
    rw[Fv _ _ _ _ _ (.inl (by rw[O];omega))];rw[O,Q]at U;have T:=zT [] (i64.wrap (k+1)) 1 1 ai;rcases qf (cy (s)<0)with ⟨I,_⟩|⟨I,_⟩<;>rcases qf (cy (s)>0)with ⟨c6,_⟩|⟨c6,_⟩
    all_goals
     refine en func192 call192 [(0,.ptr 1000000 0),(1,.c (.int .i64 (25-((g+1:Nat):Int))))] [(1000000,[.c (.str (c::s)),.c (.int .i64 k),.c (.int .i64 0)])] [] [1000000] λβ hf=>?_
     repeat' (first|refine sz ?_|refine ze ?_ ?_|(intro h;first|(cases h;done)|rw[h]|skip)|refine nv ?_ (hq:=Y) (hok:=by exact⟨_,_,_,Z,Z,⟨_,_,Z,Z,⟨_,_,Z,Z,⟨_,_,Z,Z,Z⟩⟩⟩,Z⟩)|refine nv ?_ (hq:=U) (hok:=by exact⟨_,_,_,Z,Z,⟨_,_,Z,Z,⟨_,_,Z,Z,⟨_,_,Z,Z,Z⟩⟩⟩,Z⟩)|refine nv ?_ (hq:=T) (hok:=by exact⟨_,_,_,Z,Z,⟨_,_,Z,Z,⟨_,_,Z,Z,⟨_,_,Z,Z,Z⟩⟩⟩,⟨_,_,Z,Z,Z⟩⟩)|(refine uA Z ?_ ?_<;>(try (show(_:Nat)*_<=_;dsimp only))))
     refine AK.dN (α:=Unit) (λ_=>True) (λ_=>0)
      (λ_=>[(7,.c (.int .i64 (cy (s)))),(0,.ptr 1000000 0),(1,.c (.int .i64 (25-((g+1:Nat):Int)))),(4,.ptr 4 0),(5,.ptr 5 0)])
      (λ_=>[(4,[.c (.int .i64 0),.c (.int .i64 0),.c (.int .i64 0),.c (.str []),.own .exact 5 []]),(5,[.c (.int .i64 ((3:Nat):Int)),.c (.int .i64 0),.c (.int .i64 0),.c (.str []),.own .exact 5 []]),(1000000,[.c (.str []),.c (.int .i64 (i64.wrap (k+1))),.c (.int .i64 1)])]) (λ_=>[]) [4,5,1000000] ()
      trivial ce ⟨Z,Z,Z,trivial⟩ trivial Z Z Z ?_
     rintro _ _ W;clear W
     repeat' (first|refine sz ?_|refine ze ?_ ?_|(intro h;first|(cases h;done)|rw[h]|skip)|(refine uA Z ?_ ?_<;>(try (show(_:Nat)*_<=_;dsimp only))))
     all_goals first|rfl|(rw[E])
   rw[abN _ _ _ _ ai];have f0:((q:Int)==0)=false:=(by simpa using q0);have f1:((q:Int)==1)=false:=(by simp;omega);have f2:((q:Int)==2)=false:=(by simp;omega);have f3:((q:Int)==3)=false:=(by simp;omega);have h3:=wA (i64.wrap (k+1)) 1 ai;have T:=jL s (i64.wrap (k+1)) 1;refine en func192 call192 [(0,.ptr 1000000 0),(1,.c (.int .i64 (25-((g+1:Nat):Int))))] [(1000000,[.c (.str (c::s)),.c (.int .i64 k),.c (.int .i64 0)])] [] [1000000] λβ hf=>?_
   repeat' (first|refine sz ?_|refine ze ?_ ?_|(intro h;first|(cases h;done)|rw[h]|skip)|refine nv ?_ (hq:=Y) (hok:=by exact⟨_,_,_,Z,Z,⟨_,_,Z,Z,⟨_,_,Z,Z,⟨_,_,Z,Z,Z⟩⟩⟩,Z⟩)|refine nv ?_ (hq:=h3) (hok:=by exact⟨_,_,_,Z,Z,⟨_,_,Z,Z,⟨_,_,Z,Z,⟨_,_,Z,Z,Z⟩⟩⟩,Z⟩)|refine nv ?_ (hq:=T) (hok:=by exact⟨_,_,_,Z,Z,⟨_,_,Z,Z,⟨_,_,Z,Z,⟨_,_,Z,Z,Z⟩⟩⟩,⟨_,_,Z,Z,Z⟩⟩)|(refine uA Z ?_ ?_<;>(try (show(_:Nat)*_<=_;dsimp only))))
   refine AK.dN (α:=Unit) (λ_=>True) (λ_=>0)
    (λ_=>[(7,.c (.int .i64 0)),(0,.ptr 1000000 0),(1,.c (.int .i64 (25-((g+1:Nat):Int)))),(4,.ptr 4 0),(5,.ptr 5 0)])
    (λ_=>[(4,[.c (.int .i64 0),.c (.int .i64 0),.c (.int .i64 0),.c (.str []),.own .exact 5 []]),(5,[.c (.int .i64 (q:Int)),.c (.int .i64 0),.c (.int .i64 0),.c (.str []),.own .exact 5 []]),(1000000,[.c (.str []),.c (.int .i64 (i64.wrap (k+1))),.c (.int .i64 1)])]) (λ_=>[]) [4,5,1000000] ()
    trivial ce ⟨Z,Z,Z,trivial⟩ trivial Z Z Z ?_
   rintro _ _ W;clear W
   repeat' (first|refine sz ?_|refine ze ?_ ?_|(intro h;first|(cases h;done)|rw[h]|skip)|(refine uA Z ?_ ?_<;>(try (show(_:Nat)*_<=_;dsimp only))))
   all_goals first|rfl|(rw[E])
attribute [local irreducible] fJ
def SE(s:L UInt8):fJ s=match fU 24 s 300 with
 |.no e=>(vw,e)
 |.ok n r _=>if r=[]then(n,0)else(vw,1):=by unfold fJ;rfl
def K1(s:L UInt8):af 185 [.str s] (.eF [aM (fJ s).1,.int .i64 (fJ s).2]):=by
 have h1:=Cu 24 s 0 ai ai ai;have I:=PT 24 s 300 ai;rw[show(300:Int)-((300:Nat):Int)=0 from rfl]at I;rw[show(25:Int)-((24:Nat):Int)=1 from rfl]at h1;rw[SE];cases B:fU 24 s 300 with
 |no e =>
  rw[B]at I;simp only[uf]at I;rcases D:oV 24 s 0 with ⟨⟨Y,A,W,K,q⟩,s2,k2,e2⟩
  rw[D]at h1 I;simp only at h1 I;obtain⟨rfl,rfl,O⟩:=I;have u:(e2==0)=false:=by simpa using O
  have V:(e2 != 0)=true:=by simpa using O
  exact qdq func185 call185
 |ok n r l =>
  rw[B]at I;simp only[uf]at I;rw[I.1]at h1;simp only at h1;obtain⟨Y,A,W,K,q⟩:=n;cases r with
  |nil =>
   exact qdq func185 call185
  |cons c r =>
   have h2:=jL (c::r) (300-(l:Int)) 1;exact qdq func185 call185
end Go.Proofs
