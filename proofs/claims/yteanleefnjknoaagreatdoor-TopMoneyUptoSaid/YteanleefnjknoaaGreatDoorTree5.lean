/- What node of package tree's reader and Decode answer. -/
import Derived.Test.YteanleefnjknoaaGreatDoorTree4
open Go.IntKind
open Go.Proofs.Tryz
set_option linter.defProp false
set_option maxHeartbeats 0
set_option linter.unusedVariables false
set_option linter.unusedSimpArgs false
set_option maxRecDepth 100000
namespace Go.Proofs
open Go.cK
def XI(s:L UInt8)(k:Int):og 0 s k=⟨uo,[],k+1,4⟩:=rfl
def XJ(g:Nat)(s:L UInt8)(k:Int)(h:k+1>300):og (g+1) s k=⟨uo,[],k+1,4⟩:=by simp only[og,if_pos h]
def ZI(g:Nat)(k:Int)(h:¬(k+1>300)):og (g+1) [] k=⟨uo,[],k+1,1⟩:=by simp only[og,if_neg h]
def XK(g:Nat)(c:UInt8)(s:L UInt8)(k:Int)(h:¬(k+1>300)):og (g+1) (c::s) k=jd (og g) c.toNat s (k+1):=by simp only[og,if_neg h]
def aem(f:L UInt8->Int->RX)(s:L UInt8)(k:Int):jd f 0 s k=⟨.mk 0 (cD s) 0 [] [],dO s,k,jX s⟩:=rfl
def Uo(f:L UInt8->Int->RX)(s:L UInt8)(k:Int)(h:cD s<0\/cD s>200\/cD s>(dO s).length):jd f 1 s k=⟨.mk 1 0 0 [] [],[],k,1⟩:=by simp only[jd,if_pos h];rfl
def QZ(f:L UInt8->Int->RX)(s:L UInt8)(k:Int)(h:¬(cD s<0\/cD s>200\/cD s>(dO s).length)):jd f 1 s k=⟨.mk 1 0 0 ((dO s).take (cD s).toNat) [],(dO s).drop (cD s).toNat,k,jX s⟩:=by simp only[jd,if_neg h];rfl
def Up(f:L UInt8->Int->RX)(k:Int):jd f 2 [] k=⟨.mk 2 0 0 [] [],[],k,1⟩:=rfl
def Q0(f:L UInt8->Int->RX)(p:UInt8)(s:L UInt8)(k:Int)(h:sD p.toNat=true):jd f 2 (p::s) k=jL f 2 p.toNat s k:=by simp[jd,h]
def Uq(f:L UInt8->Int->RX)(p:UInt8)(s:L UInt8)(k:Int)(h:sD p.toNat=false):jd f 2 (p::s) k=⟨.mk 2 0 p.toNat [] [],[],k,1⟩:=by simp[jd,h]
def aen(f:L UInt8->Int->RX)(s:L UInt8)(k:Int):jd f 3 s k=jL f 3 0 s k:=rfl
def ZJ(f:L UInt8->Int->RX)(c:Nat)(s:L UInt8)(k:Int)(h:c>3):jd f c s k=⟨.mk c 0 0 [] [],[],k,1⟩:=by
 simp only[jd];rw[if_neg bn,if_neg bn,if_neg bn,if_neg bn]
def Ej(f:L UInt8->Int->RX)(T p:Int)(s:L UInt8)(k:Int)(h:jX s≠0\/cD s<0):jL f T p s k=⟨.mk T 0 p [] [],[],k,1⟩:=by simp only[jL,if_pos h]
def SM(f:L UInt8->Int->RX)(T p:Int)(s:L UInt8)(k:Int)(h:¬(jX s≠0\/cD s<0)):jL f T p s k=⟨.mk T 0 p [] (eN f (cD s).toNat (dO s) k 0).1,(eN f (cD s).toNat (dO s) k 0).2.1,(eN f (cD s).toNat (dO s) k 0).2.2.1,(eN f (cD s).toNat (dO s) k 0).2.2.2⟩:=by simp only[jL,if_neg h]
def I8(f:L UInt8->Int->RX)(s:L UInt8)(k e:Int):eN f 0 s k e=([],s,k,e):=rfl
def Oq(f:L UInt8->Int->RX)(v:Nat)(s:L UInt8)(k e:Int)(h:e≠0):eN f v s k e=([],s,k,e):=by
 cases v with
 |zero=>rfl
 |succ v=>simp only[eN,if_pos h]
def I9(f:L UInt8->Int->RX)(v:Nat)(s:L UInt8)(k:Int):eN f (v+1) s k 0=((f s k).n::(eN f v (f s k).s (f s k).k (f s k).e).1,(eN f v (f s k).s (f s k).k (f s k).e).2):=by simp[eN]
def Bm{s:L UInt8}(h:jX s=0) : -bN<=cD s/\cD s<=bN:=by
 cases B:fI s with
 |none=>rw[(kQ B).2]at h;simp at h
 |some x =>
  obtain⟨n,r⟩:=x;rw[(ug B).1];exact(nZ B).2
def vl(s:L UInt8):jX s=0\/jX s=1/\dO s=[]:=by
 cases B:fI s with
 |none=>right;exact⟨(kQ B).2,(kQ B).1⟩
 |some x=>left;exact(ug B).2.2
section
attribute [local irreducible] AK af
def vm(k e:Int)(S:e≠0):gT 170 [.box [.c (.str []),.c (.int .i64 k),.c (.int .i64 e)]] [.c (.int .i64 0)] [(0,[.c (.str []),.c (.int .i64 k),.c (.int .i64 e)])]:=by
 have h1:=Oo k e S;refine en func170 call170 [(0,.ptr 1000000 0)] [(1000000,[.c (.str []),.c (.int .i64 k),.c (.int .i64 e)])] [] [1000000] λβ hf=>?_
 repeat' (first|refine sz ?_|refine ze ?_ ?_|(intro h;first|(cases h;done)|rw[h]|skip)|refine mP ?_ (hq:=h1))
 refine AK.eL (α:=Unit) (λ_=>True) (λ_=>0)
  (λ_=>[(3,.c (.int .i64 0)),(4,.c (.bool (decide ((0:Nat)/64%2=1)))),(5,.c (.int .i64 ((0%64:Nat):Int))),(0,.ptr 1000000 0)])
  (λ_=>[(1000000,[.c (.str []),.c (.int .i64 k),.c (.int .i64 e)])]) (λ_=>[]) [1000000] ()
  trivial ⟨.inl Z,.inl (aeb (λz=>some (AV.c (CV.bool z))) (UJ (c:=0) bn)),.inl (aeb (λz=>some (AV.c (CV.int .i64 z))) (Lm (a:=0) bn)),.inl Z,trivial⟩ ⟨Z,trivial⟩ trivial Z Z Z ?_
 rintro _ _ Y;clear Y;exact dq
end
attribute [local irreducible] AK af bg cn og jd jL eN cD dO jX sD
def Bn:∀(g:Nat)(s:L UInt8)(k:Int),g<=24->0<=k->k<=300 ->
  gT 164 [.box [.c (.str s),.c (.int .i64 k),.c (.int .i64 0)],.v (.c (.int .i64 (25-(g:Int))))] [.c (aW (og g s k).n)] [(0,[.c (.str (og g s k).s),.c (.int .i64 (og g s k).k),.c (.int .i64 (og g s k).e)])]
 |0,s,k,hg,yO,hk=>by
  rw[XI];have I:i64.wrap (k+1)=k+1:=iy bn bn;have h1:=jx s (k+1) 4;rw[<- I]at h1;refine en func164 call164 [(0,.ptr 1000000 0),(1,.c (.int .i64 25))] [(1000000,[.c (.str s),.c (.int .i64 k),.c (.int .i64 0)])] [] [1000000] λβ hf=>?_
  repeat' (first|refine sz ?_|refine ze ?_ ?_|(intro h;first|(cases h;done)|rw[h]|skip)|refine mP ?_ (hq:=h1) (hok:=by exact⟨_,_,_,Z,Z,⟨_,_,Z,Z,⟨_,_,Z,Z,⟨_,_,Z,Z,Z⟩⟩⟩,⟨_,_,Z,Z,Z⟩⟩)|(refine uA Z ?_ ?_<;>(try (show(_:Nat)*_<=_;dsimp only))))
  all_goals first|rfl|(rw[I])
 |g+1,s,k,hg,yO,hk=>by
  have I:i64.wrap (k+1)=k+1:=iy bn bn;have hin:∀(Q:L UInt8)(k':Int),0<=k'->k'<=300->gT 164 [.box [.c (.str Q),.c (.int .i64 k'),.c (.int .i64 0)],.v (.c (.int .i64 (i64.wrap (25-((g+1:Nat):Int)+1))))] [.c (aW (og g Q k').n)] [(0,[.c (.str (og g Q k').s),.c (.int .i64 (og g Q k').k),.c (.int .i64 (og g Q k').e)])]:=by
   intro Q k' h0 h1;rw[iy bn bn,show(25-((g+1:Nat):Int)+1)=25-(g:Int)from by omega];exact Bn g Q k' bn h0 h1
  have c0:decide ((25-((g+1:Nat):Int))>24)=false:=aap bn;by_cases Ot:k+1>300
  ·rw[XJ _ _ _ Ot];have c1:decide (i64.wrap (k+1)>300)=true:=aak (by rw[I];exact Ot);have h1:=jx s (i64.wrap (k+1)) 4;refine en func164 call164 [(0,.ptr 1000000 0),(1,.c (.int .i64 (25-((g+1:Nat):Int))))] [(1000000,[.c (.str s),.c (.int .i64 k),.c (.int .i64 0)])] [] [1000000] λβ hf=>?_
   repeat' (first|refine sz ?_|refine ze ?_ ?_|(intro h;first|(cases h;done)|rw[h]|skip)|refine mP ?_ (hq:=h1) (hok:=by exact⟨_,_,_,Z,Z,⟨_,_,Z,Z,⟨_,_,Z,Z,⟨_,_,Z,Z,Z⟩⟩⟩,⟨_,_,Z,Z,Z⟩⟩)|(refine uA Z ?_ ?_<;>(try (show(_:Nat)*_<=_;dsimp only))))
   all_goals first|rfl|(rw[I])
  have c1:decide (i64.wrap (k+1)>300)=false:=aap (by rw[I];exact Ot);cases s with
  |nil =>
   rw[ZI _ _ Ot];have h1:=Bl (i64.wrap (k+1));have h2:=vm (i64.wrap (k+1)) 1 bn;refine en func164 call164 [(0,.ptr 1000000 0),(1,.c (.int .i64 (25-((g+1:Nat):Int))))] [(1000000,[.c (.str []),.c (.int .i64 k),.c (.int .i64 0)])] [] [1000000] λβ hf=>?_
   repeat' (first|refine sz ?_|refine ze ?_ ?_|(intro h;first|(cases h;done)|rw[h]|skip)|refine mP ?_ (hq:=h1) (hok:=by exact⟨_,_,_,Z,Z,⟨_,_,Z,Z,⟨_,_,Z,Z,⟨_,_,Z,Z,Z⟩⟩⟩,Z⟩)|refine mP ?_ (hq:=h2) (hok:=by exact⟨_,_,_,Z,Z,⟨_,_,Z,Z,⟨_,_,Z,Z,⟨_,_,Z,Z,Z⟩⟩⟩,Z⟩)|(refine uA Z ?_ ?_<;>(try (show(_:Nat)*_<=_;dsimp only))))
   all_goals first|rfl|(rw[I])
  |cons c s =>
   rw[XK _ _ _ _ Ot];have Y:=yE c s (i64.wrap (k+1)) 0;have hcb:=c.toNat_lt;generalize hq:c.toNat=q at Y hcb;by_cases q0:q=0
   ·subst q0;rw[aem];have T:=qi s (i64.wrap (k+1));refine en func164 call164 [(0,.ptr 1000000 0),(1,.c (.int .i64 (25-((g+1:Nat):Int))))] [(1000000,[.c (.str (c::s)),.c (.int .i64 k),.c (.int .i64 0)])] [] [1000000] λβ hf=>?_
    repeat' (first|refine sz ?_|refine ze ?_ ?_|(intro h;first|(cases h;done)|rw[h]|skip)|refine mP ?_ (hq:=Y) (hok:=by exact⟨_,_,_,Z,Z,⟨_,_,Z,Z,⟨_,_,Z,Z,⟨_,_,Z,Z,Z⟩⟩⟩,Z⟩)|refine mP ?_ (hq:=T) (hok:=by exact⟨_,_,_,Z,Z,⟨_,_,Z,Z,⟨_,_,Z,Z,⟨_,_,Z,Z,Z⟩⟩⟩,Z⟩)|(refine uA Z ?_ ?_<;>(try (show(_:Nat)*_<=_;dsimp only))))
    all_goals first|rfl|(rw[I])
   by_cases q1:q=1
   ·subst q1;have T:=qi s (i64.wrap (k+1));by_cases aeo:cD s<0\/cD s>200\/cD s>(dO s).length
    ·rw[Uo _ _ _ aeo];have S:gT 165 [.box [.c (.str (dO s)),.c (.int .i64 (i64.wrap (k+1))),.c (.int .i64 (jX s))],.v (.c (.int .i64 1))] [] [(0,[.c (.str []),.c (.int .i64 (i64.wrap (k+1))),.c (.int .i64 1)])]:=by
      rcases vl s with W|⟨W,O⟩
      ·rw[W];exact jx _ _ _
      ·rw[W,O];exact yD _ _ _ _ bn
     rcases oW (cD s<0)with ⟨d1,b1⟩|⟨d1,b1⟩<;>rcases oW (cD s>200)with ⟨d2,b2⟩|⟨d2,b2⟩<;>rcases oW (cD s>(dO s).length)with ⟨d3,b3⟩|⟨d3,b3⟩
     all_goals first|(exfalso;omega)|skip
     all_goals
      refine en func164 call164 [(0,.ptr 1000000 0),(1,.c (.int .i64 (25-((g+1:Nat):Int))))] [(1000000,[.c (.str (c::s)),.c (.int .i64 k),.c (.int .i64 0)])] [] [1000000] λβ hf=>?_
      repeat' (first|refine sz ?_|refine ze ?_ ?_|(intro h;first|(cases h;done)|rw[h]|skip)|refine mP ?_ (hq:=Y) (hok:=by exact⟨_,_,_,Z,Z,⟨_,_,Z,Z,⟨_,_,Z,Z,⟨_,_,Z,Z,Z⟩⟩⟩,Z⟩)|refine mP ?_ (hq:=T) (hok:=by exact⟨_,_,_,Z,Z,⟨_,_,Z,Z,⟨_,_,Z,Z,⟨_,_,Z,Z,Z⟩⟩⟩,Z⟩)|refine mP ?_ (hq:=S) (hok:=by exact⟨_,_,_,Z,Z,⟨_,_,Z,Z,⟨_,_,Z,Z,⟨_,_,Z,Z,Z⟩⟩⟩,⟨_,_,Z,Z,Z⟩⟩)|(refine uA Z ?_ ?_<;>(try (show(_:Nat)*_<=_;dsimp only))))
      all_goals first|rfl|(rw[I])
    ·rw[QZ _ _ _ aeo];have d1:decide (cD s<0)=false:=aap bn;have d2:decide (cD s>200)=false:=aap bn;have d3:decide (cD s>(dO s).length)=false:=aap bn;obtain⟨v,hv⟩:∃v:Nat,cD s=v:=⟨(cD s).toNat,bn⟩
     have hvl:v<=(dO s).length:=by omega
     rw[hv]at T d1 d2 d3 ⊢;have d12:(bif decide ((v:Int)<0)then true else decide ((v:Int)>200))=false:=by rw[d1,d2];rfl
     refine en func164 call164 [(0,.ptr 1000000 0),(1,.c (.int .i64 (25-((g+1:Nat):Int))))] [(1000000,[.c (.str (c::s)),.c (.int .i64 k),.c (.int .i64 0)])] [] [1000000] λβ hf=>?_
     repeat' (first|refine sz ?_|refine ze ?_ ?_|(intro h;first|(cases h;done)|rw[h]|skip)|refine mP ?_ (hq:=Y) (hok:=by exact⟨_,_,_,Z,Z,⟨_,_,Z,Z,⟨_,_,Z,Z,⟨_,_,Z,Z,Z⟩⟩⟩,Z⟩)|refine mP ?_ (hq:=T) (hok:=by exact⟨_,_,_,Z,Z,⟨_,_,Z,Z,⟨_,_,Z,Z,⟨_,_,Z,Z,Z⟩⟩⟩,Z⟩)|refine af.FP hX kn Z Z Z Z Z Z (l:=none) (h:=some v) Z Z hvl (aeE _) ?_|refine af.FP hX kn Z Z Z Z Z Z (l:=some v) (h:=none) Z Z (aaj _) hvl ?_|(refine uA Z ?_ ?_<;>(try (show(_:Nat)*_<=_;dsimp only))))
     all_goals first|rfl|(rw[I];done)|(rw[I];simp;done)|(simp[I];done)
   by_cases q2:q=2
   ·subst q2;cases s with
    |nil =>
     rw[Up];have h1:=Oo (i64.wrap (k+1)) 1 bn;have h2:=Bl (i64.wrap (k+1));have hp0:sD 0=false:=by decide +kernel
     have K:=mZ 0;rw[hp0]at K;have h3:=vm (i64.wrap (k+1)) 1 bn;have S:=yD [] (i64.wrap (k+1)) 1 1 bn;refine en func164 call164 [(0,.ptr 1000000 0),(1,.c (.int .i64 (25-((g+1:Nat):Int))))] [(1000000,[.c (.str (c::[])),.c (.int .i64 k),.c (.int .i64 0)])] [] [1000000] λβ hf=>?_
     repeat' (first|refine sz ?_|refine ze ?_ ?_|(intro h;first|(cases h;done)|rw[h]|skip)|refine mP ?_ (hq:=Y) (hok:=by exact⟨_,_,_,Z,Z,⟨_,_,Z,Z,⟨_,_,Z,Z,⟨_,_,Z,Z,Z⟩⟩⟩,Z⟩)|refine mP ?_ (hq:=h2) (hok:=by exact⟨_,_,_,Z,Z,⟨_,_,Z,Z,⟨_,_,Z,Z,⟨_,_,Z,Z,Z⟩⟩⟩,Z⟩)|refine uC Z K ?_|refine mP ?_ (hq:=h3) (hok:=by exact⟨_,_,_,Z,Z,⟨_,_,Z,Z,⟨_,_,Z,Z,⟨_,_,Z,Z,Z⟩⟩⟩,Z⟩)|refine mP ?_ (hq:=S) (hok:=by exact⟨_,_,_,Z,Z,⟨_,_,Z,Z,⟨_,_,Z,Z,⟨_,_,Z,Z,Z⟩⟩⟩,⟨_,_,Z,Z,Z⟩⟩)|(refine uA Z ?_ ?_<;>(try (show(_:Nat)*_<=_;dsimp only))))
     refine AK.eL (α:=Unit) (λ_=>True) (λ_=>0)
      (λ_=>[(7,.c (.int .i64 0)),(0,.ptr 1000000 0),(1,.c (.int .i64 (25-((g+1:Nat):Int)))),(4,.ptr 4 0),(5,.ptr 5 0)])
      (λ_=>[(4,[.c (.int .i64 0),.c (.int .i64 0),.c (.int .i64 0),.c (.str []),.own .exact 5 []]),(5,[.c (.int .i64 ((2:Nat):Int)),.c (.int .i64 0),.c (.int .i64 0),.c (.str []),.own .exact 5 []]),(1000000,[.c (.str []),.c (.int .i64 (i64.wrap (k+1))),.c (.int .i64 1)])]) (λ_=>[]) [4,5,1000000] ()
      trivial ce ⟨Z,Z,Z,trivial⟩ trivial Z Z Z ?_
     rintro _ _ U;clear U
     repeat' (first|refine sz ?_|refine ze ?_ ?_|(intro h;first|(cases h;done)|rw[h]|skip)|(refine uA Z ?_ ?_<;>(try (show(_:Nat)*_<=_;dsimp only))))
     all_goals first|rfl|(rw[I])
    |cons p s =>
     have J:=yE p s (i64.wrap (k+1)) 0;have NS:=p.toNat_lt;cases hp:sD p.toNat with
     |false =>
      rw[Uq _ _ _ _ hp];have K:=mZ p.toNat;rw[hp]at K;have h3:=vm (i64.wrap (k+1)) 1 bn;have S:=jx s (i64.wrap (k+1)) 1;refine en func164 call164 [(0,.ptr 1000000 0),(1,.c (.int .i64 (25-((g+1:Nat):Int))))] [(1000000,[.c (.str (c::p::s)),.c (.int .i64 k),.c (.int .i64 0)])] [] [1000000] λβ hf=>?_
      repeat' (first|refine sz ?_|refine ze ?_ ?_|(intro h;first|(cases h;done)|rw[h]|skip)|refine mP ?_ (hq:=Y) (hok:=by exact⟨_,_,_,Z,Z,⟨_,_,Z,Z,⟨_,_,Z,Z,⟨_,_,Z,Z,Z⟩⟩⟩,Z⟩)|refine mP ?_ (hq:=J) (hok:=by exact⟨_,_,_,Z,Z,⟨_,_,Z,Z,⟨_,_,Z,Z,⟨_,_,Z,Z,Z⟩⟩⟩,Z⟩)|refine uC Z K ?_|refine mP ?_ (hq:=h3) (hok:=by exact⟨_,_,_,Z,Z,⟨_,_,Z,Z,⟨_,_,Z,Z,⟨_,_,Z,Z,Z⟩⟩⟩,Z⟩)|refine mP ?_ (hq:=S) (hok:=by exact⟨_,_,_,Z,Z,⟨_,_,Z,Z,⟨_,_,Z,Z,⟨_,_,Z,Z,Z⟩⟩⟩,⟨_,_,Z,Z,Z⟩⟩)|(refine uA Z ?_ ?_<;>(try (show(_:Nat)*_<=_;dsimp only))))
      refine AK.eL (α:=Unit) (λ_=>True) (λ_=>0)
       (λ_=>[(7,.c (.int .i64 0)),(0,.ptr 1000000 0),(1,.c (.int .i64 (25-((g+1:Nat):Int)))),(4,.ptr 4 0),(5,.ptr 5 0)])
       (λ_=>[(4,[.c (.int .i64 0),.c (.int .i64 0),.c (.int .i64 0),.c (.str []),.own .exact 5 []]),(5,[.c (.int .i64 ((2:Nat):Int)),.c (.int .i64 0),.c (.int .i64 ((p.toNat:Nat):Int)),.c (.str []),.own .exact 5 []]),(1000000,[.c (.str []),.c (.int .i64 (i64.wrap (k+1))),.c (.int .i64 1)])]) (λ_=>[]) [4,5,1000000] ()
       trivial ce ⟨Z,Z,Z,trivial⟩ trivial Z Z Z ?_
      rintro _ _ U;clear U
      repeat' (first|refine sz ?_|refine ze ?_ ?_|(intro h;first|(cases h;done)|rw[h]|skip)|(refine uA Z ?_ ?_<;>(try (show(_:Nat)*_<=_;dsimp only))))
      all_goals first|rfl|(rw[I])
     |true =>
      rw[Q0 _ _ _ _ hp];have K:=mZ p.toNat;rw[hp]at K;have T:=qi (s) (i64.wrap (k+1));rcases vl (s)with W|⟨W,O⟩
      ·have Lc:=Bm W;unfold bN at Lc;rw[W]at T;by_cases B:cD (s)<0
       ·rw[Ej _ _ _ _ _ (.inr B)];have H:decide (cD (s)<0)=true:=aak B;have c6:decide (cD (s)>0)=false:=aap bn;have S:=jx (dO (s)) (i64.wrap (k+1)) 1;refine en func164 call164 [(0,.ptr 1000000 0),(1,.c (.int .i64 (25-((g+1:Nat):Int))))] [(1000000,[.c (.str (c::p::s)),.c (.int .i64 k),.c (.int .i64 0)])] [] [1000000] λβ hf=>?_
        repeat' (first|refine sz ?_|refine ze ?_ ?_|(intro h;first|(cases h;done)|rw[h]|skip)|refine mP ?_ (hq:=Y) (hok:=by exact⟨_,_,_,Z,Z,⟨_,_,Z,Z,⟨_,_,Z,Z,⟨_,_,Z,Z,Z⟩⟩⟩,Z⟩)|refine mP ?_ (hq:=J) (hok:=by exact⟨_,_,_,Z,Z,⟨_,_,Z,Z,⟨_,_,Z,Z,⟨_,_,Z,Z,Z⟩⟩⟩,Z⟩)|refine uC Z K ?_|refine mP ?_ (hq:=T) (hok:=by exact⟨_,_,_,Z,Z,⟨_,_,Z,Z,⟨_,_,Z,Z,⟨_,_,Z,Z,Z⟩⟩⟩,Z⟩)|refine mP ?_ (hq:=S) (hok:=by exact⟨_,_,_,Z,Z,⟨_,_,Z,Z,⟨_,_,Z,Z,⟨_,_,Z,Z,Z⟩⟩⟩,⟨_,_,Z,Z,Z⟩⟩)|(refine uA Z ?_ ?_<;>(try (show(_:Nat)*_<=_;dsimp only))))
        refine AK.eL (α:=Unit) (λ_=>True) (λ_=>0)
         (λ_=>[(7,.c (.int .i64 (cD (s)))),(0,.ptr 1000000 0),(1,.c (.int .i64 (25-((g+1:Nat):Int)))),(4,.ptr 4 0),(5,.ptr 5 0)])
         (λ_=>[(4,[.c (.int .i64 0),.c (.int .i64 0),.c (.int .i64 0),.c (.str []),.own .exact 5 []]),(5,[.c (.int .i64 ((2:Nat):Int)),.c (.int .i64 0),.c (.int .i64 ((p.toNat:Nat):Int)),.c (.str []),.own .exact 5 []]),(1000000,[.c (.str []),.c (.int .i64 (i64.wrap (k+1))),.c (.int .i64 1)])]) (λ_=>[]) [4,5,1000000] ()
         trivial ce ⟨Z,Z,Z,trivial⟩ trivial Z Z Z ?_
        rintro _ _ U;clear U
        repeat' (first|refine sz ?_|refine ze ?_ ?_|(intro h;first|(cases h;done)|rw[h]|skip)|(refine uA Z ?_ ?_<;>(try (show(_:Nat)*_<=_;dsimp only))))
        all_goals first|rfl|(rw[I])
       ·rw[SM _ _ _ _ _ (by rw[W];simp;omega)];have H:decide (cD (s)<0)=false:=aap B;obtain⟨V,hv⟩:∃v:Nat,cD (s)=v:=⟨(cD (s)).toNat,bn⟩
        rw[hv]at T H;have hvt:(cD (s)).toNat=V:=by omega
        rw[hvt];refine en func164 call164 [(0,.ptr 1000000 0),(1,.c (.int .i64 (25-((g+1:Nat):Int))))] [(1000000,[.c (.str (c::p::s)),.c (.int .i64 k),.c (.int .i64 0)])] [] [1000000] λβ hf=>?_
        repeat' (first|refine sz ?_|refine ze ?_ ?_|(intro h;first|(cases h;done)|rw[h]|skip)|refine mP ?_ (hq:=Y) (hok:=by exact⟨_,_,_,Z,Z,⟨_,_,Z,Z,⟨_,_,Z,Z,⟨_,_,Z,Z,Z⟩⟩⟩,Z⟩)|refine mP ?_ (hq:=J) (hok:=by exact⟨_,_,_,Z,Z,⟨_,_,Z,Z,⟨_,_,Z,Z,⟨_,_,Z,Z,Z⟩⟩⟩,Z⟩)|refine uC Z K ?_|refine mP ?_ (hq:=T) (hok:=by exact⟨_,_,_,Z,Z,⟨_,_,Z,Z,⟨_,_,Z,Z,⟨_,_,Z,Z,Z⟩⟩⟩,Z⟩)|(refine uA Z ?_ ?_<;>(try (show(_:Nat)*_<=_;dsimp only))))
        refine AK.fV [(4,4),(5,5),(1000000,1000000)] [(5000,(0,none))] (env':=[(7,.c (.int .i64 (V:Nat))),(0,.ptr 1000000 0),(1,.c (.int .i64 (25-((g+1:Nat):Int)))),(4,.ptr 4 0),(5,.ptr 5 0)])
         (bs':=[(4,[.c (.int .i64 0),.c (.int .i64 0),.c (.int .i64 0),.c (.str []),.own .exact 5 []]),(5,[.c (.int .i64 ((2:Nat):Int)),.c (.int .i64 0),.c (.int .i64 ((p.toNat:Nat):Int)),.c (.str []),.own (.tok 5000 0) 5 []]),(1000000,[.c (.str (dO (s))),.c (.int .i64 (k+1)),.c (.int .i64 0)])]) (ts':=[(5000,0)]) (us':=[4,5,1000000,5000])
         ce  ⟨ce,ce,⟨_,_,Z,Z,⟨_,_,Z,.inl Z,⟨_,_,Z,.inl (aeb (λz=>AV.c (.int .i64 z)) I),⟨_,_,Z,.inl Z,Z⟩⟩⟩⟩,trivial⟩ Z ?_
        refine AK.eL (α:=Nat×L Nd×L UInt8×Int×Int) (λz=>eN (og g) V (dO (s)) (k+1) 0=(z.2.1++(eN (og g) z.1 z.2.2.1 z.2.2.2.1 z.2.2.2.2).1,(eN (og g) z.1 z.2.2.1 z.2.2.2.1 z.2.2.2.2).2)/\0<=z.2.2.2.1/\z.2.2.2.1<=301/\(z.2.2.2.2=0->z.2.2.2.1<=300)/\(z.2.1.length:Int)<=z.2.2.2.1/\z.1<=1152921504606846976) (λz=>z.1)
         (λz=>[(7,.c (.int .i64 (z.1:Nat))),(0,.ptr 1000000 0),(1,.c (.int .i64 (25-((g+1:Nat):Int)))),(4,.ptr 4 0),(5,.ptr 5 0)])
         (λz=>[(4,[.c (.int .i64 0),.c (.int .i64 0),.c (.int .i64 0),.c (.str []),.own .exact 5 []]),(5,[.c (.int .i64 ((2:Nat):Int)),.c (.int .i64 0),.c (.int .i64 ((p.toNat:Nat):Int)),.c (.str []),.own (.tok 5000 0) 5 (aH z.2.1)]),(1000000,[.c (.str z.2.2.1),.c (.int .i64 z.2.2.2.1),.c (.int .i64 z.2.2.2.2)])]) (λ_=>[(5000,0)]) [4,5,1000000,5000] (V,[],dO (s),k+1,0)
         ⟨cS,by show 0<=k+1;omega,by show k+1<=301;omega,λ_=>by show k+1<=300;omega,by show(0:Int)<=k+1;omega,by show V<=_;omega⟩ ce ⟨Z,Z,Z,trivial⟩ ⟨Z,trivial⟩ Z Z Z ?_
        rintro⟨v,acc,Q,k',e'⟩ ⟨N,Q1,hk',UG,Rb,ab3⟩ U;simp only at N Q1 hk' UG Rb ab3;by_cases he:e'=0
        ·subst he;have M:=UG Z;cases v with
         |zero =>
          rw[I8,aec]at N;rw[N];clear U;exact dq
         |succ v =>
          have c7:decide (((v+1:Nat):Int)>0)=true:=aak bn;have hq:=hin Q k' Q1 M;have P:=QX g Q k' Q1 M;rw[I9]at N;rcases hx:og g Q k' with ⟨⟨G,E,D,u,C⟩,s2,A,e2⟩
          rw[hx]at hq P N;simp only at hq P N;have e7:i64.wrap (((v+1:Nat):Int)-1)=(v:Int):=by rw[iy bn bn];omega
          repeat' (first|refine sz ?_|refine ze ?_ ?_|(intro h;first|(cases h;done)|rw[h]|skip)|refine mP ?_ (hq:=hq) (hok:=by exact⟨_,_,_,Z,Z,⟨_,_,Z,Z,⟨_,_,Z,Z,⟨_,_,Z,Z,Z⟩⟩⟩,⟨_,_,Z,Z,Z⟩⟩)|(refine uA Z ?_ ?_<;>(try (show(_:Nat)*_<=_;dsimp only))))
          ·have h1:=bt acc;simp only[aac,aad];omega
          ·have hap:aH acc++[aW (.mk G E D u C)]=aH (acc++[.mk G E D u C]):=(mF acc [_]).symm;refine AK.fV [(4,4),(5,5),(1000000,1000000)] [(5000,(0,some 5000))] (env':=[(7,.c (.int .i64 (v:Nat))),(0,.ptr 1000000 0),(1,.c (.int .i64 (25-((g+1:Nat):Int)))),(4,.ptr 4 0),(5,.ptr 5 0)])
            (bs':=[(4,[.c (.int .i64 0),.c (.int .i64 0),.c (.int .i64 0),.c (.str []),.own .exact 5 []]),(5,[.c (.int .i64 ((2:Nat):Int)),.c (.int .i64 0),.c (.int .i64 ((p.toNat:Nat):Int)),.c (.str []),.own (.tok 5000 0) 5 (aH (acc++[.mk G E D u C]))]),(1000000,[.c (.str s2),.c (.int .i64 A),.c (.int .i64 e2)])]) (ts':=[(5000,0)]) (us':=[4,5,1000000,5000])
            ⟨⟨_,Z,.inl (aeb (λz=>AV.c (.int .i64 z)) e7)⟩,⟨_,Z,⟨_,Z,Z⟩⟩,⟨_,Z,.inl Z⟩,⟨_,Z,⟨_,Z,Z⟩⟩,⟨_,Z,⟨_,Z,Z⟩⟩,trivial⟩ ⟨ce,⟨_,_,Z,Z,⟨_,_,Z,.inl Z,⟨_,_,Z,.inl Z,⟨_,_,Z,.inl Z,⟨_,_,Z,.inl Z,⟨_,_,Z,⟨_,Z,.inr ⟨_,_,Z,Z,aeb (AV.own (.tok 5000 1) 5) hap⟩⟩,Z⟩⟩⟩⟩⟩⟩,ce,trivial⟩ Z ?_
           refine U (v,acc++[.mk G E D u C],s2,A,e2) ⟨?_,by show 0<=A;omega,by show A<=301;omega,P.2.2,V6,by show v<=_;omega⟩ (by show v<v+1;omega);show eN (og g) V (dO (s)) (k+1) 0=_;rw[N];simp
        ·rw[Oq _ _ _ _ _ he,aec]at N;rw[N];have c8:(e'==0)=false:=by simpa using he
         clear U;rcases oW ((v:Int)>0)with ⟨c7,_⟩|⟨c7,_⟩
         all_goals
          exact dq
      ·rw[Ej _ _ _ _ _ (.inl (by rw[W];omega))];rw[W,O]at T;have S:=yD [] (i64.wrap (k+1)) 1 1 bn;rcases oW (cD (s)<0)with ⟨H,_⟩|⟨H,_⟩<;>rcases oW (cD (s)>0)with ⟨c6,_⟩|⟨c6,_⟩
       all_goals
        refine en func164 call164 [(0,.ptr 1000000 0),(1,.c (.int .i64 (25-((g+1:Nat):Int))))] [(1000000,[.c (.str (c::p::s)),.c (.int .i64 k),.c (.int .i64 0)])] [] [1000000] λβ hf=>?_
        repeat' (first|refine sz ?_|refine ze ?_ ?_|(intro h;first|(cases h;done)|rw[h]|skip)|refine mP ?_ (hq:=Y) (hok:=by exact⟨_,_,_,Z,Z,⟨_,_,Z,Z,⟨_,_,Z,Z,⟨_,_,Z,Z,Z⟩⟩⟩,Z⟩)|refine mP ?_ (hq:=J) (hok:=by exact⟨_,_,_,Z,Z,⟨_,_,Z,Z,⟨_,_,Z,Z,⟨_,_,Z,Z,Z⟩⟩⟩,Z⟩)|refine uC Z K ?_|refine mP ?_ (hq:=T) (hok:=by exact⟨_,_,_,Z,Z,⟨_,_,Z,Z,⟨_,_,Z,Z,⟨_,_,Z,Z,Z⟩⟩⟩,Z⟩)|refine mP ?_ (hq:=S) (hok:=by exact⟨_,_,_,Z,Z,⟨_,_,Z,Z,⟨_,_,Z,Z,⟨_,_,Z,Z,Z⟩⟩⟩,⟨_,_,Z,Z,Z⟩⟩)|(refine uA Z ?_ ?_<;>(try (show(_:Nat)*_<=_;dsimp only))))
        refine AK.eL (α:=Unit) (λ_=>True) (λ_=>0)
         (λ_=>[(7,.c (.int .i64 (cD (s)))),(0,.ptr 1000000 0),(1,.c (.int .i64 (25-((g+1:Nat):Int)))),(4,.ptr 4 0),(5,.ptr 5 0)])
         (λ_=>[(4,[.c (.int .i64 0),.c (.int .i64 0),.c (.int .i64 0),.c (.str []),.own .exact 5 []]),(5,[.c (.int .i64 ((2:Nat):Int)),.c (.int .i64 0),.c (.int .i64 ((p.toNat:Nat):Int)),.c (.str []),.own .exact 5 []]),(1000000,[.c (.str []),.c (.int .i64 (i64.wrap (k+1))),.c (.int .i64 1)])]) (λ_=>[]) [4,5,1000000] ()
         trivial ce ⟨Z,Z,Z,trivial⟩ trivial Z Z Z ?_
        rintro _ _ U;clear U
        repeat' (first|refine sz ?_|refine ze ?_ ?_|(intro h;first|(cases h;done)|rw[h]|skip)|(refine uA Z ?_ ?_<;>(try (show(_:Nat)*_<=_;dsimp only))))
        all_goals first|rfl|(rw[I])
   by_cases q3:q=3
   ·subst q3;rw[aen];have T:=qi (s) (i64.wrap (k+1));rcases vl (s)with W|⟨W,O⟩
    ·have Lc:=Bm W;unfold bN at Lc;rw[W]at T;by_cases B:cD (s)<0
     ·rw[Ej _ _ _ _ _ (.inr B)];have H:decide (cD (s)<0)=true:=aak B;have c6:decide (cD (s)>0)=false:=aap bn;have S:=jx (dO (s)) (i64.wrap (k+1)) 1;refine en func164 call164 [(0,.ptr 1000000 0),(1,.c (.int .i64 (25-((g+1:Nat):Int))))] [(1000000,[.c (.str (c::s)),.c (.int .i64 k),.c (.int .i64 0)])] [] [1000000] λβ hf=>?_
      repeat' (first|refine sz ?_|refine ze ?_ ?_|(intro h;first|(cases h;done)|rw[h]|skip)|refine mP ?_ (hq:=Y) (hok:=by exact⟨_,_,_,Z,Z,⟨_,_,Z,Z,⟨_,_,Z,Z,⟨_,_,Z,Z,Z⟩⟩⟩,Z⟩)|refine mP ?_ (hq:=T) (hok:=by exact⟨_,_,_,Z,Z,⟨_,_,Z,Z,⟨_,_,Z,Z,⟨_,_,Z,Z,Z⟩⟩⟩,Z⟩)|refine mP ?_ (hq:=S) (hok:=by exact⟨_,_,_,Z,Z,⟨_,_,Z,Z,⟨_,_,Z,Z,⟨_,_,Z,Z,Z⟩⟩⟩,⟨_,_,Z,Z,Z⟩⟩)|(refine uA Z ?_ ?_<;>(try (show(_:Nat)*_<=_;dsimp only))))
      refine AK.eL (α:=Unit) (λ_=>True) (λ_=>0)
       (λ_=>[(7,.c (.int .i64 (cD (s)))),(0,.ptr 1000000 0),(1,.c (.int .i64 (25-((g+1:Nat):Int)))),(4,.ptr 4 0),(5,.ptr 5 0)])
       (λ_=>[(4,[.c (.int .i64 0),.c (.int .i64 0),.c (.int .i64 0),.c (.str []),.own .exact 5 []]),(5,[.c (.int .i64 ((3:Nat):Int)),.c (.int .i64 0),.c (.int .i64 0),.c (.str []),.own .exact 5 []]),(1000000,[.c (.str []),.c (.int .i64 (i64.wrap (k+1))),.c (.int .i64 1)])]) (λ_=>[]) [4,5,1000000] ()
       trivial ce ⟨Z,Z,Z,trivial⟩ trivial Z Z Z ?_
      rintro _ _ U;clear U
      repeat' (first|refine sz ?_|refine ze ?_ ?_|(intro h;first|(cases h;done)|rw[h]|skip)|(refine uA Z ?_ ?_<;>(try (show(_:Nat)*_<=_;dsimp only))))
      all_goals first|rfl|(rw[I])
     ·rw[SM _ _ _ _ _ (by rw[W];simp;omega)];have H:decide (cD (s)<0)=false:=aap B;obtain⟨V,hv⟩:∃v:Nat,cD (s)=v:=⟨(cD (s)).toNat,bn⟩
      rw[hv]at T H;have hvt:(cD (s)).toNat=V:=by omega
      rw[hvt];refine en func164 call164 [(0,.ptr 1000000 0),(1,.c (.int .i64 (25-((g+1:Nat):Int))))] [(1000000,[.c (.str (c::s)),.c (.int .i64 k),.c (.int .i64 0)])] [] [1000000] λβ hf=>?_
      repeat' (first|refine sz ?_|refine ze ?_ ?_|(intro h;first|(cases h;done)|rw[h]|skip)|refine mP ?_ (hq:=Y) (hok:=by exact⟨_,_,_,Z,Z,⟨_,_,Z,Z,⟨_,_,Z,Z,⟨_,_,Z,Z,Z⟩⟩⟩,Z⟩)|refine mP ?_ (hq:=T) (hok:=by exact⟨_,_,_,Z,Z,⟨_,_,Z,Z,⟨_,_,Z,Z,⟨_,_,Z,Z,Z⟩⟩⟩,Z⟩)|(refine uA Z ?_ ?_<;>(try (show(_:Nat)*_<=_;dsimp only))))
      refine AK.fV [(4,4),(5,5),(1000000,1000000)] [(5000,(0,none))] (env':=[(7,.c (.int .i64 (V:Nat))),(0,.ptr 1000000 0),(1,.c (.int .i64 (25-((g+1:Nat):Int)))),(4,.ptr 4 0),(5,.ptr 5 0)])
       (bs':=[(4,[.c (.int .i64 0),.c (.int .i64 0),.c (.int .i64 0),.c (.str []),.own .exact 5 []]),(5,[.c (.int .i64 ((3:Nat):Int)),.c (.int .i64 0),.c (.int .i64 0),.c (.str []),.own (.tok 5000 0) 5 []]),(1000000,[.c (.str (dO (s))),.c (.int .i64 (k+1)),.c (.int .i64 0)])]) (ts':=[(5000,0)]) (us':=[4,5,1000000,5000])
       ce  ⟨ce,ce,⟨_,_,Z,Z,⟨_,_,Z,.inl Z,⟨_,_,Z,.inl (aeb (λz=>AV.c (.int .i64 z)) I),⟨_,_,Z,.inl Z,Z⟩⟩⟩⟩,trivial⟩ Z ?_
      refine AK.eL (α:=Nat×L Nd×L UInt8×Int×Int) (λz=>eN (og g) V (dO (s)) (k+1) 0=(z.2.1++(eN (og g) z.1 z.2.2.1 z.2.2.2.1 z.2.2.2.2).1,(eN (og g) z.1 z.2.2.1 z.2.2.2.1 z.2.2.2.2).2)/\0<=z.2.2.2.1/\z.2.2.2.1<=301/\(z.2.2.2.2=0->z.2.2.2.1<=300)/\(z.2.1.length:Int)<=z.2.2.2.1/\z.1<=1152921504606846976) (λz=>z.1)
       (λz=>[(7,.c (.int .i64 (z.1:Nat))),(0,.ptr 1000000 0),(1,.c (.int .i64 (25-((g+1:Nat):Int)))),(4,.ptr 4 0),(5,.ptr 5 0)])
       (λz=>[(4,[.c (.int .i64 0),.c (.int .i64 0),.c (.int .i64 0),.c (.str []),.own .exact 5 []]),(5,[.c (.int .i64 ((3:Nat):Int)),.c (.int .i64 0),.c (.int .i64 0),.c (.str []),.own (.tok 5000 0) 5 (aH z.2.1)]),(1000000,[.c (.str z.2.2.1),.c (.int .i64 z.2.2.2.1),.c (.int .i64 z.2.2.2.2)])]) (λ_=>[(5000,0)]) [4,5,1000000,5000] (V,[],dO (s),k+1,0)
       ⟨cS,by show 0<=k+1;omega,by show k+1<=301;omega,λ_=>by show k+1<=300;omega,by show(0:Int)<=k+1;omega,by show V<=_;omega⟩ ce ⟨Z,Z,Z,trivial⟩ ⟨Z,trivial⟩ Z Z Z ?_
      rintro⟨v,acc,Q,k',e'⟩ ⟨N,Q1,hk',UG,Rb,ab3⟩ U;simp only at N Q1 hk' UG Rb ab3;by_cases he:e'=0
      ·subst he;have M:=UG Z;cases v with
       |zero =>
        rw[I8,aec]at N;rw[N];clear U;exact dq
       |succ v =>
        have c7:decide (((v+1:Nat):Int)>0)=true:=aak bn;have hq:=hin Q k' Q1 M;have P:=QX g Q k' Q1 M;rw[I9]at N;rcases hx:og g Q k' with ⟨⟨G,E,D,u,C⟩,s2,A,e2⟩
        rw[hx]at hq P N;simp only at hq P N;have e7:i64.wrap (((v+1:Nat):Int)-1)=(v:Int):=by rw[iy bn bn];omega
        repeat' (first|refine sz ?_|refine ze ?_ ?_|(intro h;first|(cases h;done)|rw[h]|skip)|refine mP ?_ (hq:=hq) (hok:=by exact⟨_,_,_,Z,Z,⟨_,_,Z,Z,⟨_,_,Z,Z,⟨_,_,Z,Z,Z⟩⟩⟩,⟨_,_,Z,Z,Z⟩⟩)|(refine uA Z ?_ ?_<;>(try (show(_:Nat)*_<=_;dsimp only))))
        ·have h1:=bt acc;simp only[aac,aad];omega
        ·have hap:aH acc++[aW (.mk G E D u C)]=aH (acc++[.mk G E D u C]):=(mF acc [_]).symm;refine AK.fV [(4,4),(5,5),(1000000,1000000)] [(5000,(0,some 5000))] (env':=[(7,.c (.int .i64 (v:Nat))),(0,.ptr 1000000 0),(1,.c (.int .i64 (25-((g+1:Nat):Int)))),(4,.ptr 4 0),(5,.ptr 5 0)])
          (bs':=[(4,[.c (.int .i64 0),.c (.int .i64 0),.c (.int .i64 0),.c (.str []),.own .exact 5 []]),(5,[.c (.int .i64 ((3:Nat):Int)),.c (.int .i64 0),.c (.int .i64 0),.c (.str []),.own (.tok 5000 0) 5 (aH (acc++[.mk G E D u C]))]),(1000000,[.c (.str s2),.c (.int .i64 A),.c (.int .i64 e2)])]) (ts':=[(5000,0)]) (us':=[4,5,1000000,5000])
          ⟨⟨_,Z,.inl (aeb (λz=>AV.c (.int .i64 z)) e7)⟩,⟨_,Z,⟨_,Z,Z⟩⟩,⟨_,Z,.inl Z⟩,⟨_,Z,⟨_,Z,Z⟩⟩,⟨_,Z,⟨_,Z,Z⟩⟩,trivial⟩ ⟨ce,⟨_,_,Z,Z,⟨_,_,Z,.inl Z,⟨_,_,Z,.inl Z,⟨_,_,Z,.inl Z,⟨_,_,Z,.inl Z,⟨_,_,Z,⟨_,Z,.inr ⟨_,_,Z,Z,aeb (AV.own (.tok 5000 1) 5) hap⟩⟩,Z⟩⟩⟩⟩⟩⟩,ce,trivial⟩ Z ?_
         refine U (v,acc++[.mk G E D u C],s2,A,e2) ⟨?_,by show 0<=A;omega,by show A<=301;omega,P.2.2,V6,by show v<=_;omega⟩ (by show v<v+1;omega);show eN (og g) V (dO (s)) (k+1) 0=_;rw[N];simp
      ·rw[Oq _ _ _ _ _ he,aec]at N;rw[N];have c8:(e'==0)=false:=by simpa using he
       clear U;rcases oW ((v:Int)>0)with ⟨c7,_⟩|⟨c7,_⟩
       all_goals
        exact dq
    ·rw[Ej _ _ _ _ _ (.inl (by rw[W];omega))];rw[W,O]at T;have S:=yD [] (i64.wrap (k+1)) 1 1 bn;rcases oW (cD (s)<0)with ⟨H,_⟩|⟨H,_⟩<;>rcases oW (cD (s)>0)with ⟨c6,_⟩|⟨c6,_⟩
     all_goals
      refine en func164 call164 [(0,.ptr 1000000 0),(1,.c (.int .i64 (25-((g+1:Nat):Int))))] [(1000000,[.c (.str (c::s)),.c (.int .i64 k),.c (.int .i64 0)])] [] [1000000] λβ hf=>?_
      repeat' (first|refine sz ?_|refine ze ?_ ?_|(intro h;first|(cases h;done)|rw[h]|skip)|refine mP ?_ (hq:=Y) (hok:=by exact⟨_,_,_,Z,Z,⟨_,_,Z,Z,⟨_,_,Z,Z,⟨_,_,Z,Z,Z⟩⟩⟩,Z⟩)|refine mP ?_ (hq:=T) (hok:=by exact⟨_,_,_,Z,Z,⟨_,_,Z,Z,⟨_,_,Z,Z,⟨_,_,Z,Z,Z⟩⟩⟩,Z⟩)|refine mP ?_ (hq:=S) (hok:=by exact⟨_,_,_,Z,Z,⟨_,_,Z,Z,⟨_,_,Z,Z,⟨_,_,Z,Z,Z⟩⟩⟩,⟨_,_,Z,Z,Z⟩⟩)|(refine uA Z ?_ ?_<;>(try (show(_:Nat)*_<=_;dsimp only))))
      refine AK.eL (α:=Unit) (λ_=>True) (λ_=>0)
       (λ_=>[(7,.c (.int .i64 (cD (s)))),(0,.ptr 1000000 0),(1,.c (.int .i64 (25-((g+1:Nat):Int)))),(4,.ptr 4 0),(5,.ptr 5 0)])
       (λ_=>[(4,[.c (.int .i64 0),.c (.int .i64 0),.c (.int .i64 0),.c (.str []),.own .exact 5 []]),(5,[.c (.int .i64 ((3:Nat):Int)),.c (.int .i64 0),.c (.int .i64 0),.c (.str []),.own .exact 5 []]),(1000000,[.c (.str []),.c (.int .i64 (i64.wrap (k+1))),.c (.int .i64 1)])]) (λ_=>[]) [4,5,1000000] ()
       trivial ce ⟨Z,Z,Z,trivial⟩ trivial Z Z Z ?_
      rintro _ _ U;clear U
      repeat' (first|refine sz ?_|refine ze ?_ ?_|(intro h;first|(cases h;done)|rw[h]|skip)|(refine uA Z ?_ ?_<;>(try (show(_:Nat)*_<=_;dsimp only))))
      all_goals first|rfl|(rw[I])
   ·rw[ZJ _ _ _ _ bn];have f0:((q:Int)==0)=false:=by simpa using q0
    have f1:((q:Int)==1)=false:=by simp;omega
    have f2:((q:Int)==2)=false:=by simp;omega
    have f3:((q:Int)==3)=false:=by simp;omega
    have h3:=vm (i64.wrap (k+1)) 1 bn;have S:=jx s (i64.wrap (k+1)) 1;refine en func164 call164 [(0,.ptr 1000000 0),(1,.c (.int .i64 (25-((g+1:Nat):Int))))] [(1000000,[.c (.str (c::s)),.c (.int .i64 k),.c (.int .i64 0)])] [] [1000000] λβ hf=>?_
    repeat' (first|refine sz ?_|refine ze ?_ ?_|(intro h;first|(cases h;done)|rw[h]|skip)|refine mP ?_ (hq:=Y) (hok:=by exact⟨_,_,_,Z,Z,⟨_,_,Z,Z,⟨_,_,Z,Z,⟨_,_,Z,Z,Z⟩⟩⟩,Z⟩)|refine mP ?_ (hq:=h3) (hok:=by exact⟨_,_,_,Z,Z,⟨_,_,Z,Z,⟨_,_,Z,Z,⟨_,_,Z,Z,Z⟩⟩⟩,Z⟩)|refine mP ?_ (hq:=S) (hok:=by exact⟨_,_,_,Z,Z,⟨_,_,Z,Z,⟨_,_,Z,Z,⟨_,_,Z,Z,Z⟩⟩⟩,⟨_,_,Z,Z,Z⟩⟩)|(refine uA Z ?_ ?_<;>(try (show(_:Nat)*_<=_;dsimp only))))
    refine AK.eL (α:=Unit) (λ_=>True) (λ_=>0)
     (λ_=>[(7,.c (.int .i64 0)),(0,.ptr 1000000 0),(1,.c (.int .i64 (25-((g+1:Nat):Int)))),(4,.ptr 4 0),(5,.ptr 5 0)])
     (λ_=>[(4,[.c (.int .i64 0),.c (.int .i64 0),.c (.int .i64 0),.c (.str []),.own .exact 5 []]),(5,[.c (.int .i64 (q:Int)),.c (.int .i64 0),.c (.int .i64 0),.c (.str []),.own .exact 5 []]),(1000000,[.c (.str []),.c (.int .i64 (i64.wrap (k+1))),.c (.int .i64 1)])]) (λ_=>[]) [4,5,1000000] ()
     trivial ce ⟨Z,Z,Z,trivial⟩ trivial Z Z Z ?_
    rintro _ _ U;clear U
    repeat' (first|refine sz ?_|refine ze ?_ ?_|(intro h;first|(cases h;done)|rw[h]|skip)|(refine uA Z ?_ ?_<;>(try (show(_:Nat)*_<=_;dsimp only))))
    all_goals first|rfl|(rw[I])
attribute [local irreducible] fF
def Q2(s:L UInt8):fF s=match fP 24 s 300 with
 |.no e=>(uo,e)
 |.ok n r _=>if r=[]then(n,0)else(uo,1):=by unfold fF;rfl
def JQ(s:L UInt8):ah 156 [.str s] (.eY [aW (fF s).1,.int .i64 (fF s).2]):=by
 have h1:=Bn 24 s 0 bn bn bn;have E:=On 24 s 300 bn;rw[show(300:Int)-((300:Nat):Int)=0 from rfl]at E;rw[show(25:Int)-((24:Nat):Int)=1 from rfl]at h1;rw[Q2];cases C:fP 24 s 300 with
 |no e =>
  rw[C]at E;simp only[sX]at E;rcases O:og 24 s 0 with ⟨⟨V,Q,M,N,W⟩,s2,k2,e2⟩
  rw[O]at h1 E;simp only at h1 E;obtain⟨rfl,rfl,S⟩:=E;have u:(e2==0)=false:=by simpa using S
  have H:(e2 != 0)=true:=by simpa using S
  refine qn func156 call156 λβ hf=>?_;exact dq
 |ok n r l =>
  rw[C]at E;simp only[sX]at E;rw[E.1]at h1;simp only at h1;obtain⟨V,Q,M,N,W⟩:=n;cases r with
  |nil =>
   refine qn func156 call156 λβ hf=>?_;exact dq
  |cons c r =>
   have h2:=jx (c::r) (300-(l:Int)) 1;refine qn func156 call156 λβ hf=>?_;exact dq
end Go.Proofs
