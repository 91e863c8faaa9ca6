/- What node of package tree's reader and Decode answer. -/
import Derived.Test.YtdnpapgijbhofaaGreatDoorTree4
open Go.IntKind
open Go.Proofs.Tryz
set_option linter.defProp false
set_option maxHeartbeats 0
set_option linter.unusedVariables false
set_option linter.unusedSimpArgs false
set_option maxRecDepth 100000
namespace Go.Proofs
open Go.cM
def RQ(s:L UInt8)(k:Int):l9 0 s k=⟨qV,[],k+1,4⟩:=rfl
def RR(g:Nat)(s:L UInt8)(k:Int)(h:k+1>300):l9 (g+1) s k=⟨qV,[],k+1,4⟩:=by simp only[l9,if_pos h]
def TB(g:Nat)(k:Int)(h:¬(k+1>300)):l9 (g+1) [] k=⟨qV,[],k+1,1⟩:=by simp only[l9,if_neg h]
def RS(g:Nat)(c:UInt8)(s:L UInt8)(k:Int)(h:¬(k+1>300)):l9 (g+1) (c::s) k=gP (l9 g) c.toNat s (k+1):=by simp only[l9,if_neg h]
def XW(f:L UInt8->Int->RX)(s:L UInt8)(k:Int):gP f 0 s k=⟨.mk 0 (cr s) 0 [] [],cX s,k,iI s⟩:=rfl
def OH(f:L UInt8->Int->RX)(s:L UInt8)(k:Int)(h:cr s<0\/cr s>200\/cr s>(cX s).length):gP f 1 s k=⟨.mk 1 0 0 [] [],[],k,1⟩:=by simp only[gP,if_pos h];rfl
def LL(f:L UInt8->Int->RX)(s:L UInt8)(k:Int)(h:¬(cr s<0\/cr s>200\/cr s>(cX s).length)):gP f 1 s k=⟨.mk 1 0 0 ((cX s).take (cr s).toNat) [],(cX s).drop (cr s).toNat,k,iI s⟩:=by simp only[gP,if_neg h];rfl
def OI(f:L UInt8->Int->RX)(k:Int):gP f 2 [] k=⟨.mk 2 0 0 [] [],[],k,1⟩:=rfl
def LM(f:L UInt8->Int->RX)(p:UInt8)(s:L UInt8)(k:Int)(h:pW p.toNat=true):gP f 2 (p::s) k=iz f 2 p.toNat s k:=by simp[gP,h]
def OJ(f:L UInt8->Int->RX)(p:UInt8)(s:L UInt8)(k:Int)(h:pW p.toNat=false):gP f 2 (p::s) k=⟨.mk 2 0 p.toNat [] [],[],k,1⟩:=by simp[gP,h]
def XX(f:L UInt8->Int->RX)(s:L UInt8)(k:Int):gP f 3 s k=iz f 3 0 s k:=rfl
def TC(f:L UInt8->Int->RX)(c:Nat)(s:L UInt8)(k:Int)(h:c>3):gP f c s k=⟨.mk c 0 0 [] [],[],k,1⟩:=by
 simp only[gP];rw[if_neg bn,if_neg bn,if_neg bn,if_neg bn]
def A8(f:L UInt8->Int->RX)(P p:Int)(s:L UInt8)(k:Int)(h:iI s≠0\/cr s<0):iz f P p s k=⟨.mk P 0 p [] [],[],k,1⟩:=by simp only[iz,if_pos h]
def Nl(f:L UInt8->Int->RX)(P p:Int)(s:L UInt8)(k:Int)(h:¬(iI s≠0\/cr s<0)):iz f P p s k=⟨.mk P 0 p [] (dU f (cr s).toNat (cX s) k 0).1,(dU f (cr s).toNat (cX s) k 0).2.1,(dU f (cr s).toNat (cX s) k 0).2.2.1,(dU f (cr s).toNat (cX s) k 0).2.2.2⟩:=by simp only[iz,if_neg h]
def EV(f:L UInt8->Int->RX)(s:L UInt8)(k e:Int):dU f 0 s k e=([],s,k,e):=rfl
def Jv(f:L UInt8->Int->RX)(v:Nat)(s:L UInt8)(k e:Int)(h:e≠0):dU f v s k e=([],s,k,e):=by
 cases v with
 |zero=>rfl
 |succ v=>simp only[dU,if_pos h]
def EW(f:L UInt8->Int->RX)(v:Nat)(s:L UInt8)(k:Int):dU f (v+1) s k 0=((f s k).n::(dU f v (f s k).s (f s k).k (f s k).e).1,(dU f v (f s k).s (f s k).k (f s k).e).2):=by simp[dU]
def xZ{s:L UInt8}(h:iI s=0) : -bL<=cr s/\cr s<=bL:=by
 cases E:eK s with
 |none=>rw[(ji E).2]at h;simp at h
 |some x =>
  obtain⟨n,r⟩:=x;rw[(qQ E).1];exact(lY E).2
def r8(s:L UInt8):iI s=0\/iI s=1/\cX s=[]:=by
 cases E:eK s with
 |none=>right;exact⟨(ji E).2,(ji E).1⟩
 |some x=>left;exact(qQ E).2.2
section
attribute [local irreducible] AK ah
def r9(k e:Int)(S:e≠0):fA 198 [.box [.c (.str []),.c (.int .i64 k),.c (.int .i64 e)]] [.c (.int .i64 0)] [(0,[.c (.str []),.c (.int .i64 k),.c (.int .i64 e)])]:=by
 have h1:=Ju k e S;refine en func198 call198 [(0,.ptr 1000000 0)] [(1000000,[.c (.str []),.c (.int .i64 k),.c (.int .i64 e)])] [] [1000000] λβ hf=>?_
 repeat' (first|refine sz ?_|refine ze ?_ ?_|(intro h;first|(cases h;done)|rw[h]|skip)|refine jT ?_ (hq:=h1))
 refine AK.eX (α:=Unit) (λ_=>True) (λ_=>0)
  (λ_=>[(3,.c (.int .i64 0)),(4,.c (.bool (decide ((0:Nat)/64%2=1)))),(5,.c (.int .i64 ((0%64:Nat):Int))),(0,.ptr 1000000 0)])
  (λ_=>[(1000000,[.c (.str []),.c (.int .i64 k),.c (.int .i64 e)])]) (λ_=>[]) [1000000] ()
  trivial ⟨.inl Z,.inl (Zb (λz=>some (AV.c (CV.bool z))) (O1 (c:=0) bn)),.inl (Zb (λz=>some (AV.c (CV.int .i64 z))) (G0 (a:=0) bn)),.inl Z,trivial⟩ ⟨Z,trivial⟩ trivial Z Z Z ?_
 rintro _ _ O;clear O;exact dq
end
attribute [local irreducible] AK ah aZ cx l9 gP iz dU cr cX iI pW
def x8:∀(g:Nat)(s:L UInt8)(k:Int),g<=24->0<=k->k<=300 ->
  fA 192 [.box [.c (.str s),.c (.int .i64 k),.c (.int .i64 0)],.v (.c (.int .i64 (25-(g:Int))))] [.c (aY (l9 g s k).n)] [(0,[.c (.str (l9 g s k).s),.c (.int .i64 (l9 g s k).k),.c (.int .i64 (l9 g s k).e)])]
 |0,s,k,hg,vr,hk=>by
  rw[RQ];have C:i64.wrap (k+1)=k+1:=gF bn bn;have h1:=hJ s (k+1) 4;rw[<- C]at h1;refine en func192 call192 [(0,.ptr 1000000 0),(1,.c (.int .i64 25))] [(1000000,[.c (.str s),.c (.int .i64 k),.c (.int .i64 0)])] [] [1000000] λβ hf=>?_
  repeat' (first|refine sz ?_|refine ze ?_ ?_|(intro h;first|(cases h;done)|rw[h]|skip)|refine jT ?_ (hq:=h1) (hok:=by exact⟨_,_,_,Z,Z,⟨_,_,Z,Z,⟨_,_,Z,Z,⟨_,_,Z,Z,Z⟩⟩⟩,⟨_,_,Z,Z,Z⟩⟩)|(refine uA Z ?_ ?_<;>(try (show(_:Nat)*_<=_;dsimp only))))
  all_goals first|rfl|(rw[C])
 |g+1,s,k,hg,vr,hk=>by
  have C:i64.wrap (k+1)=k+1:=gF bn bn;have hin:∀(S:L UInt8)(k':Int),0<=k'->k'<=300->fA 192 [.box [.c (.str S),.c (.int .i64 k'),.c (.int .i64 0)],.v (.c (.int .i64 (i64.wrap (25-((g+1:Nat):Int)+1))))] [.c (aY (l9 g S k').n)] [(0,[.c (.str (l9 g S k').s),.c (.int .i64 (l9 g S k').k),.c (.int .i64 (l9 g S k').e)])]:=by
   intro S k' h0 h1;rw[gF bn bn,show(25-((g+1:Nat):Int)+1)=25-(g:Int)from by omega];exact x8 g S k' bn h0 h1
  have c0:decide ((25-((g+1:Nat):Int))>24)=false:=aax bn;by_cases Jw:k+1>300
  ·rw[RR _ _ _ Jw];have c1:decide (i64.wrap (k+1)>300)=true:=aaw (by rw[C];exact Jw);have h1:=hJ s (i64.wrap (k+1)) 4;refine en func192 call192 [(0,.ptr 1000000 0),(1,.c (.int .i64 (25-((g+1:Nat):Int))))] [(1000000,[.c (.str s),.c (.int .i64 k),.c (.int .i64 0)])] [] [1000000] λβ hf=>?_
   repeat' (first|refine sz ?_|refine ze ?_ ?_|(intro h;first|(cases h;done)|rw[h]|skip)|refine jT ?_ (hq:=h1) (hok:=by exact⟨_,_,_,Z,Z,⟨_,_,Z,Z,⟨_,_,Z,Z,⟨_,_,Z,Z,Z⟩⟩⟩,⟨_,_,Z,Z,Z⟩⟩)|(refine uA Z ?_ ?_<;>(try (show(_:Nat)*_<=_;dsimp only))))
   all_goals first|rfl|(rw[C])
  have c1:decide (i64.wrap (k+1)>300)=false:=aax (by rw[C];exact Jw);cases s with
  |nil =>
   rw[TB _ _ Jw];have h1:=xY (i64.wrap (k+1));have h2:=r9 (i64.wrap (k+1)) 1 bn;refine en func192 call192 [(0,.ptr 1000000 0),(1,.c (.int .i64 (25-((g+1:Nat):Int))))] [(1000000,[.c (.str []),.c (.int .i64 k),.c (.int .i64 0)])] [] [1000000] λβ hf=>?_
   repeat' (first|refine sz ?_|refine ze ?_ ?_|(intro h;first|(cases h;done)|rw[h]|skip)|refine jT ?_ (hq:=h1) (hok:=by exact⟨_,_,_,Z,Z,⟨_,_,Z,Z,⟨_,_,Z,Z,⟨_,_,Z,Z,Z⟩⟩⟩,Z⟩)|refine jT ?_ (hq:=h2) (hok:=by exact⟨_,_,_,Z,Z,⟨_,_,Z,Z,⟨_,_,Z,Z,⟨_,_,Z,Z,Z⟩⟩⟩,Z⟩)|(refine uA Z ?_ ?_<;>(try (show(_:Nat)*_<=_;dsimp only))))
   all_goals first|rfl|(rw[C])
  |cons c s =>
   rw[RS _ _ _ _ Jw];have W:=vl c s (i64.wrap (k+1)) 0;have hcb:=c.toNat_lt;generalize hq:c.toNat=q at W hcb;by_cases q0:q=0
   ·subst q0;rw[XW];have T:=nR s (i64.wrap (k+1));refine en func192 call192 [(0,.ptr 1000000 0),(1,.c (.int .i64 (25-((g+1:Nat):Int))))] [(1000000,[.c (.str (c::s)),.c (.int .i64 k),.c (.int .i64 0)])] [] [1000000] λβ hf=>?_
    repeat' (first|refine sz ?_|refine ze ?_ ?_|(intro h;first|(cases h;done)|rw[h]|skip)|refine jT ?_ (hq:=W) (hok:=by exact⟨_,_,_,Z,Z,⟨_,_,Z,Z,⟨_,_,Z,Z,⟨_,_,Z,Z,Z⟩⟩⟩,Z⟩)|refine jT ?_ (hq:=T) (hok:=by exact⟨_,_,_,Z,Z,⟨_,_,Z,Z,⟨_,_,Z,Z,⟨_,_,Z,Z,Z⟩⟩⟩,Z⟩)|(refine uA Z ?_ ?_<;>(try (show(_:Nat)*_<=_;dsimp only))))
    all_goals first|rfl|(rw[C])
   by_cases q1:q=1
   ·subst q1;have T:=nR s (i64.wrap (k+1));by_cases XY:cr s<0\/cr s>200\/cr s>(cX s).length
    ·rw[OH _ _ _ XY];have Q:fA 193 [.box [.c (.str (cX s)),.c (.int .i64 (i64.wrap (k+1))),.c (.int .i64 (iI s))],.v (.c (.int .i64 1))] [] [(0,[.c (.str []),.c (.int .i64 (i64.wrap (k+1))),.c (.int .i64 1)])]:=by
      rcases r8 s with U|⟨U,XZ⟩
      ·rw[U];exact hJ _ _ _
      ·rw[U,XZ];exact vk _ _ _ _ bn
     rcases mX (cr s<0)with ⟨d1,b1⟩|⟨d1,b1⟩<;>rcases mX (cr s>200)with ⟨d2,b2⟩|⟨d2,b2⟩<;>rcases mX (cr s>(cX s).length)with ⟨d3,b3⟩|⟨d3,b3⟩
     all_goals first|(exfalso;omega)|skip
     all_goals
      refine en func192 call192 [(0,.ptr 1000000 0),(1,.c (.int .i64 (25-((g+1:Nat):Int))))] [(1000000,[.c (.str (c::s)),.c (.int .i64 k),.c (.int .i64 0)])] [] [1000000] λβ hf=>?_
      repeat' (first|refine sz ?_|refine ze ?_ ?_|(intro h;first|(cases h;done)|rw[h]|skip)|refine jT ?_ (hq:=W) (hok:=by exact⟨_,_,_,Z,Z,⟨_,_,Z,Z,⟨_,_,Z,Z,⟨_,_,Z,Z,Z⟩⟩⟩,Z⟩)|refine jT ?_ (hq:=T) (hok:=by exact⟨_,_,_,Z,Z,⟨_,_,Z,Z,⟨_,_,Z,Z,⟨_,_,Z,Z,Z⟩⟩⟩,Z⟩)|refine jT ?_ (hq:=Q) (hok:=by exact⟨_,_,_,Z,Z,⟨_,_,Z,Z,⟨_,_,Z,Z,⟨_,_,Z,Z,Z⟩⟩⟩,⟨_,_,Z,Z,Z⟩⟩)|(refine uA Z ?_ ?_<;>(try (show(_:Nat)*_<=_;dsimp only))))
      all_goals first|rfl|(rw[C])
    ·rw[LL _ _ _ XY];have d1:decide (cr s<0)=false:=aax bn;have d2:decide (cr s>200)=false:=aax bn;have d3:decide (cr s>(cX s).length)=false:=aax bn;obtain⟨v,hv⟩:∃v:Nat,cr s=v:=⟨(cr s).toNat,bn⟩
     have hvl:v<=(cX s).length:=by omega
     rw[hv]at T d1 d2 d3 ⊢;have d12:(bif decide ((v:Int)<0)then true else decide ((v:Int)>200))=false:=by rw[d1,d2];rfl
     refine en func192 call192 [(0,.ptr 1000000 0),(1,.c (.int .i64 (25-((g+1:Nat):Int))))] [(1000000,[.c (.str (c::s)),.c (.int .i64 k),.c (.int .i64 0)])] [] [1000000] λβ hf=>?_
     repeat' (first|refine sz ?_|refine ze ?_ ?_|(intro h;first|(cases h;done)|rw[h]|skip)|refine jT ?_ (hq:=W) (hok:=by exact⟨_,_,_,Z,Z,⟨_,_,Z,Z,⟨_,_,Z,Z,⟨_,_,Z,Z,Z⟩⟩⟩,Z⟩)|refine jT ?_ (hq:=T) (hok:=by exact⟨_,_,_,Z,Z,⟨_,_,Z,Z,⟨_,_,Z,Z,⟨_,_,Z,Z,Z⟩⟩⟩,Z⟩)|refine ah.B9 hX kn Z Z Z Z Z Z (l:=none) (h:=some v) Z Z hvl (aaF _) ?_|refine ah.B9 hX kn Z Z Z Z Z Z (l:=some v) (h:=none) Z Z (aav _) hvl ?_|(refine uA Z ?_ ?_<;>(try (show(_:Nat)*_<=_;dsimp only))))
     all_goals first|rfl|(rw[C];done)|(rw[C];simp;done)|(simp[C];done)
   by_cases q2:q=2
   ·subst q2;cases s with
    |nil =>
     rw[OI];have h1:=Ju (i64.wrap (k+1)) 1 bn;have h2:=xY (i64.wrap (k+1));have ZZ:pW 0=false:=by decide +kernel
     have P:=kY 0;rw[ZZ]at P;have h3:=r9 (i64.wrap (k+1)) 1 bn;have Q:=vk [] (i64.wrap (k+1)) 1 1 bn;refine en func192 call192 [(0,.ptr 1000000 0),(1,.c (.int .i64 (25-((g+1:Nat):Int))))] [(1000000,[.c (.str (c::[])),.c (.int .i64 k),.c (.int .i64 0)])] [] [1000000] λβ hf=>?_
     repeat' (first|refine sz ?_|refine ze ?_ ?_|(intro h;first|(cases h;done)|rw[h]|skip)|refine jT ?_ (hq:=W) (hok:=by exact⟨_,_,_,Z,Z,⟨_,_,Z,Z,⟨_,_,Z,Z,⟨_,_,Z,Z,Z⟩⟩⟩,Z⟩)|refine jT ?_ (hq:=h2) (hok:=by exact⟨_,_,_,Z,Z,⟨_,_,Z,Z,⟨_,_,Z,Z,⟨_,_,Z,Z,Z⟩⟩⟩,Z⟩)|refine uC Z P ?_|refine jT ?_ (hq:=h3) (hok:=by exact⟨_,_,_,Z,Z,⟨_,_,Z,Z,⟨_,_,Z,Z,⟨_,_,Z,Z,Z⟩⟩⟩,Z⟩)|refine jT ?_ (hq:=Q) (hok:=by exact⟨_,_,_,Z,Z,⟨_,_,Z,Z,⟨_,_,Z,Z,⟨_,_,Z,Z,Z⟩⟩⟩,⟨_,_,Z,Z,Z⟩⟩)|(refine uA Z ?_ ?_<;>(try (show(_:Nat)*_<=_;dsimp only))))
     refine AK.eX (α:=Unit) (λ_=>True) (λ_=>0)
      (λ_=>[(7,.c (.int .i64 0)),(0,.ptr 1000000 0),(1,.c (.int .i64 (25-((g+1:Nat):Int)))),(4,.ptr 4 0),(5,.ptr 5 0)])
      (λ_=>[(4,[.c (.int .i64 0),.c (.int .i64 0),.c (.int .i64 0),.c (.str []),.own .exact 5 []]),(5,[.c (.int .i64 ((2:Nat):Int)),.c (.int .i64 0),.c (.int .i64 0),.c (.str []),.own .exact 5 []]),(1000000,[.c (.str []),.c (.int .i64 (i64.wrap (k+1))),.c (.int .i64 1)])]) (λ_=>[]) [4,5,1000000] ()
      trivial ce ⟨Z,Z,Z,trivial⟩ trivial Z Z Z ?_
     rintro _ _ O;clear O
     repeat' (first|refine sz ?_|refine ze ?_ ?_|(intro h;first|(cases h;done)|rw[h]|skip)|(refine uA Z ?_ ?_<;>(try (show(_:Nat)*_<=_;dsimp only))))
     all_goals first|rfl|(rw[C])
    |cons p s =>
     have Um:=vl p s (i64.wrap (k+1)) 0;have IZ:=p.toNat_lt;cases hp:pW p.toNat with
     |false =>
      rw[OJ _ _ _ _ hp];have P:=kY p.toNat;rw[hp]at P;have h3:=r9 (i64.wrap (k+1)) 1 bn;have Q:=hJ s (i64.wrap (k+1)) 1;refine en func192 call192 [(0,.ptr 1000000 0),(1,.c (.int .i64 (25-((g+1:Nat):Int))))] [(1000000,[.c (.str (c::p::s)),.c (.int .i64 k),.c (.int .i64 0)])] [] [1000000] λβ hf=>?_
      repeat' (first|refine sz ?_|refine ze ?_ ?_|(intro h;first|(cases h;done)|rw[h]|skip)|refine jT ?_ (hq:=W) (hok:=by exact⟨_,_,_,Z,Z,⟨_,_,Z,Z,⟨_,_,Z,Z,⟨_,_,Z,Z,Z⟩⟩⟩,Z⟩)|refine jT ?_ (hq:=Um) (hok:=by exact⟨_,_,_,Z,Z,⟨_,_,Z,Z,⟨_,_,Z,Z,⟨_,_,Z,Z,Z⟩⟩⟩,Z⟩)|refine uC Z P ?_|refine jT ?_ (hq:=h3) (hok:=by exact⟨_,_,_,Z,Z,⟨_,_,Z,Z,⟨_,_,Z,Z,⟨_,_,Z,Z,Z⟩⟩⟩,Z⟩)|refine jT ?_ (hq:=Q) (hok:=by exact⟨_,_,_,Z,Z,⟨_,_,Z,Z,⟨_,_,Z,Z,⟨_,_,Z,Z,Z⟩⟩⟩,⟨_,_,Z,Z,Z⟩⟩)|(refine uA Z ?_ ?_<;>(try (show(_:Nat)*_<=_;dsimp only))))
      refine AK.eX (α:=Unit) (λ_=>True) (λ_=>0)
       (λ_=>[(7,.c (.int .i64 0)),(0,.ptr 1000000 0),(1,.c (.int .i64 (25-((g+1:Nat):Int)))),(4,.ptr 4 0),(5,.ptr 5 0)])
       (λ_=>[(4,[.c (.int .i64 0),.c (.int .i64 0),.c (.int .i64 0),.c (.str []),.own .exact 5 []]),(5,[.c (.int .i64 ((2:Nat):Int)),.c (.int .i64 0),.c (.int .i64 ((p.toNat:Nat):Int)),.c (.str []),.own .exact 5 []]),(1000000,[.c (.str []),.c (.int .i64 (i64.wrap (k+1))),.c (.int .i64 1)])]) (λ_=>[]) [4,5,1000000] ()
       trivial ce ⟨Z,Z,Z,trivial⟩ trivial Z Z Z ?_
      rintro _ _ O;clear O
      repeat' (first|refine sz ?_|refine ze ?_ ?_|(intro h;first|(cases h;done)|rw[h]|skip)|(refine uA Z ?_ ?_<;>(try (show(_:Nat)*_<=_;dsimp only))))
      all_goals first|rfl|(rw[C])
     |true =>
      rw[LM _ _ _ _ hp];have P:=kY p.toNat;rw[hp]at P;have T:=nR (s) (i64.wrap (k+1));rcases r8 (s)with U|⟨U,XZ⟩
      ·have GO:=xZ U;unfold bL at GO;rw[U]at T;by_cases H:cr (s)<0
       ·rw[A8 _ _ _ _ _ (.inr H)];have N:decide (cr (s)<0)=true:=aaw H;have c6:decide (cr (s)>0)=false:=aax bn;have Q:=hJ (cX (s)) (i64.wrap (k+1)) 1;refine en func192 call192 [(0,.ptr 1000000 0),(1,.c (.int .i64 (25-((g+1:Nat):Int))))] [(1000000,[.c (.str (c::p::s)),.c (.int .i64 k),.c (.int .i64 0)])] [] [1000000] λβ hf=>?_
        repeat' (first|refine sz ?_|refine ze ?_ ?_|(intro h;first|(cases h;done)|rw[h]|skip)|refine jT ?_ (hq:=W) (hok:=by exact⟨_,_,_,Z,Z,⟨_,_,Z,Z,⟨_,_,Z,Z,⟨_,_,Z,Z,Z⟩⟩⟩,Z⟩)|refine jT ?_ (hq:=Um) (hok:=by exact⟨_,_,_,Z,Z,⟨_,_,Z,Z,⟨_,_,Z,Z,⟨_,_,Z,Z,Z⟩⟩⟩,Z⟩)|refine uC Z P ?_|refine jT ?_ (hq:=T) (hok:=by exact⟨_,_,_,Z,Z,⟨_,_,Z,Z,⟨_,_,Z,Z,⟨_,_,Z,Z,Z⟩⟩⟩,Z⟩)|refine jT ?_ (hq:=Q) (hok:=by exact⟨_,_,_,Z,Z,⟨_,_,Z,Z,⟨_,_,Z,Z,⟨_,_,Z,Z,Z⟩⟩⟩,⟨_,_,Z,Z,Z⟩⟩)|(refine uA Z ?_ ?_<;>(try (show(_:Nat)*_<=_;dsimp only))))
        refine AK.eX (α:=Unit) (λ_=>True) (λ_=>0)
         (λ_=>[(7,.c (.int .i64 (cr (s)))),(0,.ptr 1000000 0),(1,.c (.int .i64 (25-((g+1:Nat):Int)))),(4,.ptr 4 0),(5,.ptr 5 0)])
         (λ_=>[(4,[.c (.int .i64 0),.c (.int .i64 0),.c (.int .i64 0),.c (.str []),.own .exact 5 []]),(5,[.c (.int .i64 ((2:Nat):Int)),.c (.int .i64 0),.c (.int .i64 ((p.toNat:Nat):Int)),.c (.str []),.own .exact 5 []]),(1000000,[.c (.str []),.c (.int .i64 (i64.wrap (k+1))),.c (.int .i64 1)])]) (λ_=>[]) [4,5,1000000] ()
         trivial ce ⟨Z,Z,Z,trivial⟩ trivial Z Z Z ?_
        rintro _ _ O;clear O
        repeat' (first|refine sz ?_|refine ze ?_ ?_|(intro h;first|(cases h;done)|rw[h]|skip)|(refine uA Z ?_ ?_<;>(try (show(_:Nat)*_<=_;dsimp only))))
        all_goals first|rfl|(rw[C])
       ·rw[Nl _ _ _ _ _ (by rw[U];simp;omega)];have N:decide (cr (s)<0)=false:=aax H;obtain⟨V,hv⟩:∃v:Nat,cr (s)=v:=⟨(cr (s)).toNat,bn⟩
        rw[hv]at T N;have G:(cr (s)).toNat=V:=by omega
        rw[G];refine en func192 call192 [(0,.ptr 1000000 0),(1,.c (.int .i64 (25-((g+1:Nat):Int))))] [(1000000,[.c (.str (c::p::s)),.c (.int .i64 k),.c (.int .i64 0)])] [] [1000000] λβ hf=>?_
        repeat' (first|refine sz ?_|refine ze ?_ ?_|(intro h;first|(cases h;done)|rw[h]|skip)|refine jT ?_ (hq:=W) (hok:=by exact⟨_,_,_,Z,Z,⟨_,_,Z,Z,⟨_,_,Z,Z,⟨_,_,Z,Z,Z⟩⟩⟩,Z⟩)|refine jT ?_ (hq:=Um) (hok:=by exact⟨_,_,_,Z,Z,⟨_,_,Z,Z,⟨_,_,Z,Z,⟨_,_,Z,Z,Z⟩⟩⟩,Z⟩)|refine uC Z P ?_|refine jT ?_ (hq:=T) (hok:=by exact⟨_,_,_,Z,Z,⟨_,_,Z,Z,⟨_,_,Z,Z,⟨_,_,Z,Z,Z⟩⟩⟩,Z⟩)|(refine uA Z ?_ ?_<;>(try (show(_:Nat)*_<=_;dsimp only))))
        refine AK.fL [(4,4),(5,5),(1000000,1000000)] [(5000,(0,none))] (env':=[(7,.c (.int .i64 (V:Nat))),(0,.ptr 1000000 0),(1,.c (.int .i64 (25-((g+1:Nat):Int)))),(4,.ptr 4 0),(5,.ptr 5 0)])
         (bs':=[(4,[.c (.int .i64 0),.c (.int .i64 0),.c (.int .i64 0),.c (.str []),.own .exact 5 []]),(5,[.c (.int .i64 ((2:Nat):Int)),.c (.int .i64 0),.c (.int .i64 ((p.toNat:Nat):Int)),.c (.str []),.own (.tok 5000 0) 5 []]),(1000000,[.c (.str (cX (s))),.c (.int .i64 (k+1)),.c (.int .i64 0)])]) (ts':=[(5000,0)]) (us':=[4,5,1000000,5000])
         ce  ⟨ce,ce,⟨_,_,Z,Z,⟨_,_,Z,.inl Z,⟨_,_,Z,.inl (Zb (λz=>AV.c (.int .i64 z)) C),⟨_,_,Z,.inl Z,Z⟩⟩⟩⟩,trivial⟩ Z ?_
        refine AK.eX (α:=Nat×L Nd×L UInt8×Int×Int) (λz=>dU (l9 g) V (cX (s)) (k+1) 0=(z.2.1++(dU (l9 g) z.1 z.2.2.1 z.2.2.2.1 z.2.2.2.2).1,(dU (l9 g) z.1 z.2.2.1 z.2.2.2.1 z.2.2.2.2).2)/\0<=z.2.2.2.1/\z.2.2.2.1<=301/\(z.2.2.2.2=0->z.2.2.2.1<=300)/\(z.2.1.length:Int)<=z.2.2.2.1/\z.1<=1152921504606846976) (λz=>z.1)
         (λz=>[(7,.c (.int .i64 (z.1:Nat))),(0,.ptr 1000000 0),(1,.c (.int .i64 (25-((g+1:Nat):Int)))),(4,.ptr 4 0),(5,.ptr 5 0)])
         (λz=>[(4,[.c (.int .i64 0),.c (.int .i64 0),.c (.int .i64 0),.c (.str []),.own .exact 5 []]),(5,[.c (.int .i64 ((2:Nat):Int)),.c (.int .i64 0),.c (.int .i64 ((p.toNat:Nat):Int)),.c (.str []),.own (.tok 5000 0) 5 (aG z.2.1)]),(1000000,[.c (.str z.2.2.1),.c (.int .i64 z.2.2.2.1),.c (.int .i64 z.2.2.2.2)])]) (λ_=>[(5000,0)]) [4,5,1000000,5000] (V,[],cX (s),k+1,0)
         ⟨ek,by show 0<=k+1;omega,by show k+1<=301;omega,λ_=>by show k+1<=300;omega,by show(0:Int)<=k+1;omega,by show V<=_;omega⟩ ce ⟨Z,Z,Z,trivial⟩ ⟨Z,trivial⟩ Z Z Z ?_
        rintro⟨v,acc,S,k',e'⟩ ⟨Y,B,u,OU,Np,VQ⟩ O;simp only at Y B u OU Np VQ;by_cases he:e'=0
        ·subst he;have X0:=OU Z;cases v with
         |zero =>
          rw[EV,Zc]at Y;rw[Y];clear O;exact dq
         |succ v =>
          have c7:decide (((v+1:Nat):Int)>0)=true:=aaw bn;have hq:=hin S k' B X0;have D:=LJ g S k' B X0;rw[EW]at Y;rcases hx:l9 g S k' with ⟨⟨I,K,M,J,E⟩,s2,A,e2⟩
          rw[hx]at hq D Y;simp only at hq D Y;have e7:i64.wrap (((v+1:Nat):Int)-1)=(v:Int):=by rw[gF bn bn];omega
          repeat' (first|refine sz ?_|refine ze ?_ ?_|(intro h;first|(cases h;done)|rw[h]|skip)|refine jT ?_ (hq:=hq) (hok:=by exact⟨_,_,_,Z,Z,⟨_,_,Z,Z,⟨_,_,Z,Z,⟨_,_,Z,Z,Z⟩⟩⟩,⟨_,_,Z,Z,Z⟩⟩)|(refine uA Z ?_ ?_<;>(try (show(_:Nat)*_<=_;dsimp only))))
          ·have h1:=bq acc;simp only[aac,aad];omega
          ·have hap:aG acc++[aY (.mk I K M J E)]=aG (acc++[.mk I K M J E]):=(kE acc [_]).symm;refine AK.fL [(4,4),(5,5),(1000000,1000000)] [(5000,(0,some 5000))] (env':=[(7,.c (.int .i64 (v:Nat))),(0,.ptr 1000000 0),(1,.c (.int .i64 (25-((g+1:Nat):Int)))),(4,.ptr 4 0),(5,.ptr 5 0)])
            (bs':=[(4,[.c (.int .i64 0),.c (.int .i64 0),.c (.int .i64 0),.c (.str []),.own .exact 5 []]),(5,[.c (.int .i64 ((2:Nat):Int)),.c (.int .i64 0),.c (.int .i64 ((p.toNat:Nat):Int)),.c (.str []),.own (.tok 5000 0) 5 (aG (acc++[.mk I K M J E]))]),(1000000,[.c (.str s2),.c (.int .i64 A),.c (.int .i64 e2)])]) (ts':=[(5000,0)]) (us':=[4,5,1000000,5000])
            ⟨⟨_,Z,.inl (Zb (λz=>AV.c (.int .i64 z)) e7)⟩,⟨_,Z,⟨_,Z,Z⟩⟩,⟨_,Z,.inl Z⟩,⟨_,Z,⟨_,Z,Z⟩⟩,⟨_,Z,⟨_,Z,Z⟩⟩,trivial⟩ ⟨ce,⟨_,_,Z,Z,⟨_,_,Z,.inl Z,⟨_,_,Z,.inl Z,⟨_,_,Z,.inl Z,⟨_,_,Z,.inl Z,⟨_,_,Z,⟨_,Z,.inr ⟨_,_,Z,Z,Zb (AV.own (.tok 5000 1) 5) hap⟩⟩,Z⟩⟩⟩⟩⟩⟩,ce,trivial⟩ Z ?_
           refine O (v,acc++[.mk I K M J E],s2,A,e2) ⟨?_,by show 0<=A;omega,by show A<=301;omega,D.2.2,OW,by show v<=_;omega⟩ (by show v<v+1;omega);show dU (l9 g) V (cX (s)) (k+1) 0=_;rw[Y];simp
        ·rw[Jv _ _ _ _ _ he,Zc]at Y;rw[Y];have c8:(e'==0)=false:=by simpa using he
         clear O;rcases mX ((v:Int)>0)with ⟨c7,_⟩|⟨c7,_⟩
         all_goals
          exact dq
      ·rw[A8 _ _ _ _ _ (.inl (by rw[U];omega))];rw[U,XZ]at T;have Q:=vk [] (i64.wrap (k+1)) 1 1 bn;rcases mX (cr (s)<0)with ⟨N,_⟩|⟨N,_⟩<;>rcases mX (cr (s)>0)with ⟨c6,_⟩|⟨c6,_⟩
       all_goals
        refine en func192 call192 [(0,.ptr 1000000 0),(1,.c (.int .i64 (25-((g+1:Nat):Int))))] [(1000000,[.c (.str (c::p::s)),.c (.int .i64 k),.c (.int .i64 0)])] [] [1000000] λβ hf=>?_
        repeat' (first|refine sz ?_|refine ze ?_ ?_|(intro h;first|(cases h;done)|rw[h]|skip)|refine jT ?_ (hq:=W) (hok:=by exact⟨_,_,_,Z,Z,⟨_,_,Z,Z,⟨_,_,Z,Z,⟨_,_,Z,Z,Z⟩⟩⟩,Z⟩)|refine jT ?_ (hq:=Um) (hok:=by exact⟨_,_,_,Z,Z,⟨_,_,Z,Z,⟨_,_,Z,Z,⟨_,_,Z,Z,Z⟩⟩⟩,Z⟩)|refine uC Z P ?_|refine jT ?_ (hq:=T) (hok:=by exact⟨_,_,_,Z,Z,⟨_,_,Z,Z,⟨_,_,Z,Z,⟨_,_,Z,Z,Z⟩⟩⟩,Z⟩)|refine jT ?_ (hq:=Q) (hok:=by exact⟨_,_,_,Z,Z,⟨_,_,Z,Z,⟨_,_,Z,Z,⟨_,_,Z,Z,Z⟩⟩⟩,⟨_,_,Z,Z,Z⟩⟩)|(refine uA Z ?_ ?_<;>(try (show(_:Nat)*_<=_;dsimp only))))
        refine AK.eX (α:=Unit) (λ_=>True) (λ_=>0)
         (λ_=>[(7,.c (.int .i64 (cr (s)))),(0,.ptr 1000000 0),(1,.c (.int .i64 (25-((g+1:Nat):Int)))),(4,.ptr 4 0),(5,.ptr 5 0)])
         (λ_=>[(4,[.c (.int .i64 0),.c (.int .i64 0),.c (.int .i64 0),.c (.str []),.own .exact 5 []]),(5,[.c (.int .i64 ((2:Nat):Int)),.c (.int .i64 0),.c (.int .i64 ((p.toNat:Nat):Int)),.c (.str []),.own .exact 5 []]),(1000000,[.c (.str []),.c (.int .i64 (i64.wrap (k+1))),.c (.int .i64 1)])]) (λ_=>[]) [4,5,1000000] ()
         trivial ce ⟨Z,Z,Z,trivial⟩ trivial Z Z Z ?_
        rintro _ _ O;clear O
        repeat' (first|refine sz ?_|refine ze ?_ ?_|(intro h;first|(cases h;done)|rw[h]|skip)|(refine uA Z ?_ ?_<;>(try (show(_:Nat)*_<=_;dsimp only))))
        all_goals first|rfl|(rw[C])
   by_cases q3:q=3
   ·subst q3;rw[XX];have T:=nR (s) (i64.wrap (k+1));rcases r8 (s)with U|⟨U,XZ⟩
    ·have GO:=xZ U;unfold bL at GO;rw[U]at T;by_cases H:cr (s)<0
     ·rw[A8 _ _ _ _ _ (.inr H)];have N:decide (cr (s)<0)=true:=aaw H;have c6:decide (cr (s)>0)=false:=aax bn;have Q:=hJ (cX (s)) (i64.wrap (k+1)) 1;refine en func192 call192 [(0,.ptr 1000000 0),(1,.c (.int .i64 (25-((g+1:Nat):Int))))] [(1000000,[.c (.str (c::s)),.c (.int .i64 k),.c (.int .i64 0)])] [] [1000000] λβ hf=>?_
      repeat' (first|refine sz ?_|refine ze ?_ ?_|(intro h;first|(cases h;done)|rw[h]|skip)|refine jT ?_ (hq:=W) (hok:=by exact⟨_,_,_,Z,Z,⟨_,_,Z,Z,⟨_,_,Z,Z,⟨_,_,Z,Z,Z⟩⟩⟩,Z⟩)|refine jT ?_ (hq:=T) (hok:=by exact⟨_,_,_,Z,Z,⟨_,_,Z,Z,⟨_,_,Z,Z,⟨_,_,Z,Z,Z⟩⟩⟩,Z⟩)|refine jT ?_ (hq:=Q) (hok:=by exact⟨_,_,_,Z,Z,⟨_,_,Z,Z,⟨_,_,Z,Z,⟨_,_,Z,Z,Z⟩⟩⟩,⟨_,_,Z,Z,Z⟩⟩)|(refine uA Z ?_ ?_<;>(try (show(_:Nat)*_<=_;dsimp only))))
      refine AK.eX (α:=Unit) (λ_=>True) (λ_=>0)
       (λ_=>[(7,.c (.int .i64 (cr (s)))),(0,.ptr 1000000 0),(1,.c (.int .i64 (25-((g+1:Nat):Int)))),(4,.ptr 4 0),(5,.ptr 5 0)])
       (λ_=>[(4,[.c (.int .i64 0),.c (.int .i64 0),.c (.int .i64 0),.c (.str []),.own .exact 5 []]),(5,[.c (.int .i64 ((3:Nat):Int)),.c (.int .i64 0),.c (.int .i64 0),.c (.str []),.own .exact 5 []]),(1000000,[.c (.str []),.c (.int .i64 (i64.wrap (k+1))),.c (.int .i64 1)])]) (λ_=>[]) [4,5,1000000] ()
       trivial ce ⟨Z,Z,Z,trivial⟩ trivial Z Z Z ?_
      rintro _ _ O;clear O
      repeat' (first|refine sz ?_|refine ze ?_ ?_|(intro h;first|(cases h;done)|rw[h]|skip)|(refine uA Z ?_ ?_<;>(try (show(_:Nat)*_<=_;dsimp only))))
      all_goals first|rfl|(rw[C])
     ·rw[Nl _ _ _ _ _ (by rw[U];simp;omega)];have N:decide (cr (s)<0)=false:=aax H;obtain⟨V,hv⟩:∃v:Nat,cr (s)=v:=⟨(cr (s)).toNat,bn⟩
      rw[hv]at T N;have G:(cr (s)).toNat=V:=by omega
      rw[G];refine en func192 call192 [(0,.ptr 1000000 0),(1,.c (.int .i64 (25-((g+1:Nat):Int))))] [(1000000,[.c (.str (c::s)),.c (.int .i64 k),.c (.int .i64 0)])] [] [1000000] λβ hf=>?_
      repeat' (first|refine sz ?_|refine ze ?_ ?_|(intro h;first|(cases h;done)|rw[h]|skip)|refine jT ?_ (hq:=W) (hok:=by exact⟨_,_,_,Z,Z,⟨_,_,Z,Z,⟨_,_,Z,Z,⟨_,_,Z,Z,Z⟩⟩⟩,Z⟩)|refine jT ?_ (hq:=T) (hok:=by exact⟨_,_,_,Z,Z,⟨_,_,Z,Z,⟨_,_,Z,Z,⟨_,_,Z,Z,Z⟩⟩⟩,Z⟩)|(refine uA Z ?_ ?_<;>(try (show(_:Nat)*_<=_;dsimp only))))
      refine AK.fL [(4,4),(5,5),(1000000,1000000)] [(5000,(0,none))] (env':=[(7,.c (.int .i64 (V:Nat))),(0,.ptr 1000000 0),(1,.c (.int .i64 (25-((g+1:Nat):Int)))),(4,.ptr 4 0),(5,.ptr 5 0)])
       (bs':=[(4,[.c (.int .i64 0),.c (.int .i64 0),.c (.int .i64 0),.c (.str []),.own .exact 5 []]),(5,[.c (.int .i64 ((3:Nat):Int)),.c (.int .i64 0),.c (.int .i64 0),.c (.str []),.own (.tok 5000 0) 5 []]),(1000000,[.c (.str (cX (s))),.c (.int .i64 (k+1)),.c (.int .i64 0)])]) (ts':=[(5000,0)]) (us':=[4,5,1000000,5000])
       ce  ⟨ce,ce,⟨_,_,Z,Z,⟨_,_,Z,.inl Z,⟨_,_,Z,.inl (Zb (λz=>AV.c (.int .i64 z)) C),⟨_,_,Z,.inl Z,Z⟩⟩⟩⟩,trivial⟩ Z ?_
      refine AK.eX (α:=Nat×L Nd×L UInt8×Int×Int) (λz=>dU (l9 g) V (cX (s)) (k+1) 0=(z.2.1++(dU (l9 g) z.1 z.2.2.1 z.2.2.2.1 z.2.2.2.2).1,(dU (l9 g) z.1 z.2.2.1 z.2.2.2.1 z.2.2.2.2).2)/\0<=z.2.2.2.1/\z.2.2.2.1<=301/\(z.2.2.2.2=0->z.2.2.2.1<=300)/\(z.2.1.length:Int)<=z.2.2.2.1/\z.1<=1152921504606846976) (λz=>z.1)
       (λz=>[(7,.c (.int .i64 (z.1:Nat))),(0,.ptr 1000000 0),(1,.c (.int .i64 (25-((g+1:Nat):Int)))),(4,.ptr 4 0),(5,.ptr 5 0)])
       (λz=>[(4,[.c (.int .i64 0),.c (.int .i64 0),.c (.int .i64 0),.c (.str []),.own .exact 5 []]),(5,[.c (.int .i64 ((3:Nat):Int)),.c (.int .i64 0),.c (.int .i64 0),.c (.str []),.own (.tok 5000 0) 5 (aG z.2.1)]),(1000000,[.c (.str z.2.2.1),.c (.int .i64 z.2.2.2.1),.c (.int .i64 z.2.2.2.2)])]) (λ_=>[(5000,0)]) [4,5,1000000,5000] (V,[],cX (s),k+1,0)
       ⟨ek,by show 0<=k+1;omega,by show k+1<=301;omega,λ_=>by show k+1<=300;omega,by show(0:Int)<=k+1;omega,by show V<=_;omega⟩ ce ⟨Z,Z,Z,trivial⟩ ⟨Z,trivial⟩ Z Z Z ?_
      rintro⟨v,acc,S,k',e'⟩ ⟨Y,B,u,OU,Np,VQ⟩ O;simp only at Y B u OU Np VQ;by_cases he:e'=0
      ·subst he;have X0:=OU Z;cases v with
       |zero =>
        rw[EV,Zc]at Y;rw[Y];clear O;exact dq
       |succ v =>
        have c7:decide (((v+1:Nat):Int)>0)=true:=aaw bn;have hq:=hin S k' B X0;have D:=LJ g S k' B X0;rw[EW]at Y;rcases hx:l9 g S k' with ⟨⟨I,K,M,J,E⟩,s2,A,e2⟩
        rw[hx]at hq D Y;simp only at hq D Y;have e7:i64.wrap (((v+1:Nat):Int)-1)=(v:Int):=by rw[gF bn bn];omega
        repeat' (first|refine sz ?_|refine ze ?_ ?_|(intro h;first|(cases h;done)|rw[h]|skip)|refine jT ?_ (hq:=hq) (hok:=by exact⟨_,_,_,Z,Z,⟨_,_,Z,Z,⟨_,_,Z,Z,⟨_,_,Z,Z,Z⟩⟩⟩,⟨_,_,Z,Z,Z⟩⟩)|(refine uA Z ?_ ?_<;>(try (show(_:Nat)*_<=_;dsimp only))))
        ·have h1:=bq acc;simp only[aac,aad];omega
        ·have hap:aG acc++[aY (.mk I K M J E)]=aG (acc++[.mk I K M J E]):=(kE acc [_]).symm;refine AK.fL [(4,4),(5,5),(1000000,1000000)] [(5000,(0,some 5000))] (env':=[(7,.c (.int .i64 (v:Nat))),(0,.ptr 1000000 0),(1,.c (.int .i64 (25-((g+1:Nat):Int)))),(4,.ptr 4 0),(5,.ptr 5 0)])
          (bs':=[(4,[.c (.int .i64 0),.c (.int .i64 0),.c (.int .i64 0),.c (.str []),.own .exact 5 []]),(5,[.c (.int .i64 ((3:Nat):Int)),.c (.int .i64 0),.c (.int .i64 0),.c (.str []),.own (.tok 5000 0) 5 (aG (acc++[.mk I K M J E]))]),(1000000,[.c (.str s2),.c (.int .i64 A),.c (.int .i64 e2)])]) (ts':=[(5000,0)]) (us':=[4,5,1000000,5000])
          ⟨⟨_,Z,.inl (Zb (λz=>AV.c (.int .i64 z)) e7)⟩,⟨_,Z,⟨_,Z,Z⟩⟩,⟨_,Z,.inl Z⟩,⟨_,Z,⟨_,Z,Z⟩⟩,⟨_,Z,⟨_,Z,Z⟩⟩,trivial⟩ ⟨ce,⟨_,_,Z,Z,⟨_,_,Z,.inl Z,⟨_,_,Z,.inl Z,⟨_,_,Z,.inl Z,⟨_,_,Z,.inl Z,⟨_,_,Z,⟨_,Z,.inr ⟨_,_,Z,Z,Zb (AV.own (.tok 5000 1) 5) hap⟩⟩,Z⟩⟩⟩⟩⟩⟩,ce,trivial⟩ Z ?_
         refine O (v,acc++[.mk I K M J E],s2,A,e2) ⟨?_,by show 0<=A;omega,by show A<=301;omega,D.2.2,OW,by show v<=_;omega⟩ (by show v<v+1;omega);show dU (l9 g) V (cX (s)) (k+1) 0=_;rw[Y];simp
      ·rw[Jv _ _ _ _ _ he,Zc]at Y;rw[Y];have c8:(e'==0)=false:=by simpa using he
       clear O;rcases mX ((v:Int)>0)with ⟨c7,_⟩|⟨c7,_⟩
       all_goals
        exact dq
    ·rw[A8 _ _ _ _ _ (.inl (by rw[U];omega))];rw[U,XZ]at T;have Q:=vk [] (i64.wrap (k+1)) 1 1 bn;rcases mX (cr (s)<0)with ⟨N,_⟩|⟨N,_⟩<;>rcases mX (cr (s)>0)with ⟨c6,_⟩|⟨c6,_⟩
     all_goals
      refine en func192 call192 [(0,.ptr 1000000 0),(1,.c (.int .i64 (25-((g+1:Nat):Int))))] [(1000000,[.c (.str (c::s)),.c (.int .i64 k),.c (.int .i64 0)])] [] [1000000] λβ hf=>?_
      repeat' (first|refine sz ?_|refine ze ?_ ?_|(intro h;first|(cases h;done)|rw[h]|skip)|refine jT ?_ (hq:=W) (hok:=by exact⟨_,_,_,Z,Z,⟨_,_,Z,Z,⟨_,_,Z,Z,⟨_,_,Z,Z,Z⟩⟩⟩,Z⟩)|refine jT ?_ (hq:=T) (hok:=by exact⟨_,_,_,Z,Z,⟨_,_,Z,Z,⟨_,_,Z,Z,⟨_,_,Z,Z,Z⟩⟩⟩,Z⟩)|refine jT ?_ (hq:=Q) (hok:=by exact⟨_,_,_,Z,Z,⟨_,_,Z,Z,⟨_,_,Z,Z,⟨_,_,Z,Z,Z⟩⟩⟩,⟨_,_,Z,Z,Z⟩⟩)|(refine uA Z ?_ ?_<;>(try (show(_:Nat)*_<=_;dsimp only))))
      refine AK.eX (α:=Unit) (λ_=>True) (λ_=>0)
       (λ_=>[(7,.c (.int .i64 (cr (s)))),(0,.ptr 1000000 0),(1,.c (.int .i64 (25-((g+1:Nat):Int)))),(4,.ptr 4 0),(5,.ptr 5 0)])
       (λ_=>[(4,[.c (.int .i64 0),.c (.int .i64 0),.c (.int .i64 0),.c (.str []),.own .exact 5 []]),(5,[.c (.int .i64 ((3:Nat):Int)),.c (.int .i64 0),.c (.int .i64 0),.c (.str []),.own .exact 5 []]),(1000000,[.c (.str []),.c (.int .i64 (i64.wrap (k+1))),.c (.int .i64 1)])]) (λ_=>[]) [4,5,1000000] ()
       trivial ce ⟨Z,Z,Z,trivial⟩ trivial Z Z Z ?_
      rintro _ _ O;clear O
      repeat' (first|refine sz ?_|refine ze ?_ ?_|(intro h;first|(cases h;done)|rw[h]|skip)|(refine uA Z ?_ ?_<;>(try (show(_:Nat)*_<=_;dsimp only))))
      all_goals first|rfl|(rw[C])
   ·rw[TC _ _ _ _ bn];have f0:((q:Int)==0)=false:=by simpa using q0
    have f1:((q:Int)==1)=false:=by simp;omega
    have f2:((q:Int)==2)=false:=by simp;omega
    have f3:((q:Int)==3)=false:=by simp;omega
    have h3:=r9 (i64.wrap (k+1)) 1 bn;have Q:=hJ s (i64.wrap (k+1)) 1;refine en func192 call192 [(0,.ptr 1000000 0),(1,.c (.int .i64 (25-((g+1:Nat):Int))))] [(1000000,[.c (.str (c::s)),.c (.int .i64 k),.c (.int .i64 0)])] [] [1000000] λβ hf=>?_
    repeat' (first|refine sz ?_|refine ze ?_ ?_|(intro h;first|(cases h;done)|rw[h]|skip)|refine jT ?_ (hq:=W) (hok:=by exact⟨_,_,_,Z,Z,⟨_,_,Z,Z,⟨_,_,Z,Z,⟨_,_,Z,Z,Z⟩⟩⟩,Z⟩)|refine jT ?_ (hq:=h3) (hok:=by exact⟨_,_,_,Z,Z,⟨_,_,Z,Z,⟨_,_,Z,Z,⟨_,_,Z,Z,Z⟩⟩⟩,Z⟩)|refine jT ?_ (hq:=Q) (hok:=by exact⟨_,_,_,Z,Z,⟨_,_,Z,Z,⟨_,_,Z,Z,⟨_,_,Z,Z,Z⟩⟩⟩,⟨_,_,Z,Z,Z⟩⟩)|(refine uA Z ?_ ?_<;>(try (show(_:Nat)*_<=_;dsimp only))))
    refine AK.eX (α:=Unit) (λ_=>True) (λ_=>0)
     (λ_=>[(7,.c (.int .i64 0)),(0,.ptr 1000000 0),(1,.c (.int .i64 (25-((g+1:Nat):Int)))),(4,.ptr 4 0),(5,.ptr 5 0)])
     (λ_=>[(4,[.c (.int .i64 0),.c (.int .i64 0),.c (.int .i64 0),.c (.str []),.own .exact 5 []]),(5,[.c (.int .i64 (q:Int)),.c (.int .i64 0),.c (.int .i64 0),.c (.str []),.own .exact 5 []]),(1000000,[.c (.str []),.c (.int .i64 (i64.wrap (k+1))),.c (.int .i64 1)])]) (λ_=>[]) [4,5,1000000] ()
     trivial ce ⟨Z,Z,Z,trivial⟩ trivial Z Z Z ?_
    rintro _ _ O;clear O
    repeat' (first|refine sz ?_|refine ze ?_ ?_|(intro h;first|(cases h;done)|rw[h]|skip)|(refine uA Z ?_ ?_<;>(try (show(_:Nat)*_<=_;dsimp only))))
    all_goals first|rfl|(rw[C])
attribute [local irreducible] eH
def LO(s:L UInt8):eH s=match eT 24 s 300 with
 |.no e=>(qV,e)
 |.ok n r _=>if r=[]then(n,0)else(qV,1):=by unfold eH;rfl
def Fg(s:L UInt8):aj 185 [.str s] (.gb [aY (eH s).1,.int .i64 (eH s).2]):=by
 have h1:=x8 24 s 0 bn bn bn;have B:=Jt 24 s 300 bn;rw[show(300:Int)-((300:Nat):Int)=0 from rfl]at B;rw[show(25:Int)-((24:Nat):Int)=1 from rfl]at h1;rw[LO];cases E:eT 24 s 300 with
 |no e =>
  rw[E]at B;simp only[ql]at B;rcases I:l9 24 s 0 with ⟨⟨C,K,D,M,Y⟩,s2,k2,e2⟩
  rw[I]at h1 B;simp only at h1 B;obtain⟨rfl,rfl,S⟩:=B;have W:(e2==0)=false:=by simpa using S
  have V:(e2 != 0)=true:=by simpa using S
  refine qn func185 call185 λβ hf=>?_;exact dq
 |ok n r l =>
  rw[E]at B;simp only[ql]at B;rw[B.1]at h1;simp only at h1;obtain⟨C,K,D,M,Y⟩:=n;cases r with
  |nil =>
   refine qn func185 call185 λβ hf=>?_;exact dq
  |cons c r =>
   have h2:=hJ (c::r) (300-(l:Int)) 1;refine qn func185 call185 λβ hf=>?_;exact dq
end Go.Proofs
