/- A part of the proof. -/
import Derived.Test.YtpnpbmbdkinajaaGreatDoorChn3G
set_option linter.all false
set_option maxHeartbeats 0
set_option maxRecDepth 100000
open Go.IntKind Go.Proofs.Tryz
namespace Go.Proofs
open Go.cE
attribute [local irreducible] AK ag aZ bS de cA cq di gL eF.cF eF.iZ wB
def afA(l W done S V)(O:L Int)(dX)(K:l.aI.length=12)(T to J I y D)(q:Δ)(x:Θ)(C u E)(Q:Δ)(P:Θ)(G N B)(c4:Δ)(p:Θ)(d1 d2 d3)(d4:Δ)(t:Θ)(r)(o:Γ)(sT)(j:Γ)(H A)(f:af 49 [aV (.mk C u E Q P)] (.eK [ct (.mk r o),ah H]))(d:af 49 [aV (.mk G N B c4 p)] (.eK [ct (.mk sT j),ah A]))(b:(bif (H != 0)then true else(A != 0))=true)(U)(a:(H != 0)=U)(M:U=false->(A != 0)) :
  gl 33 ⟨l,W,done,S,V,O⟩ [.c (ah dX),.c (.ip (WR ⟨T,to,J,.mk I y D q x,.mk C u E Q P,.mk G N B c4 p,.mk d1 d2 d3 d4 t⟩))] (ah 5) ⟨l,W,done,S,V,O⟩:=by
 cases U
 ·have i:=M Z;have bX:(bif false then true else(A != 0))=true:=by rw[i];rfl
  cases Y:wO ⟨l,W,done,S,V,O⟩with
  |none =>
   refine O5 Y func33 call33 λF hf=>?_
   repeat' (first|exact wr|refine wz ?_|(intro h;rw[h]))
  |some z =>
   refine O6 Y func33 call33 λF hf=>?_
   repeat' (first|exact wr|refine wz ?_|(intro h;rw[h]))
 clear M;cases Y:wO ⟨l,W,done,S,V,O⟩with
 |none =>
  refine O5 Y func33 call33 λF hf=>?_
  repeat' (first|exact wr|refine wz ?_|(intro h;rw[h]))
 |some z =>
  refine O6 Y func33 call33 λF hf=>?_
  repeat' (first|exact wr|refine wz ?_|(intro h;rw[h]))
def afB(l Y done S W)(O:L Int)(dX)(h12:l.aI.length=12)(T to vQ x t r)(o:Δ)(j:Θ)(C u E)(V:Δ)(Q:Θ)(G U B)(c4:Δ)(p:Θ)(P N M)(J:Δ)(K:Θ)(I)(D:Γ)(sT)(q:Γ)(H A)(d:af 49 [aV (.mk C u E V Q)] (.eK [ct (.mk I D),ah H]))(b:af 49 [aV (.mk G U B c4 p)] (.eK [ct (.mk sT q),ah A]))(i:(H != 0)=false)(F:(A != 0)=false)(e)(a:af 28 [ct (.mk I D),ct (.mk sT q),aV (.mk P N M J K)] (ah e))(he:(e != 0)) :
  gl 33 ⟨l,Y,done,S,W,O⟩ [.c (ah dX),.c (.ip (WR ⟨T,to,vQ,.mk x t r o j,.mk C u E V Q,.mk G U B c4 p,.mk P N M J K⟩))] (ah e) ⟨l,Y,done,S,W,O⟩:=by
 have hc:(bif (H != 0)then true else(A != 0))=false:=by rw[i,F];rfl
 have bX:(bif false then true else(A != 0))=false:=by rw[F];rfl
 cases y:wO ⟨l,Y,done,S,W,O⟩with
 |none =>
  refine O5 y func33 call33 λf hf=>?_
  repeat' (first|exact wr|refine wz ?_|(intro h;rw[h]))
 |some z =>
  refine O6 y func33 call33 λf hf=>?_
  repeat' (first|exact wr|refine wz ?_|(intro h;rw[h]))
def acL(l Y done S W)(O:L Int)(dX)(h12:l.aI.length=12)(T to vQ V y I)(N:Δ)(E:Θ)(U u Q)(P:Δ)(M:Θ)(G K B)(c4:Δ)(p:Θ)(J D q)(d4:Δ)(x:Θ)(t)(r:Γ)(sT)(C:Γ)(H A)(hp:af 49 [aV (.mk U u Q P M)] (.eK [ct (.mk t r),ah H]))(hs:af 49 [aV (.mk G K B c4 p)] (.eK [ct (.mk sT C),ah A]))(hx:(H != 0)=false)(o:(A != 0)=false)(e)(BH:af 28 [ct (.mk t r),ct (.mk sT C),aV (.mk J D q d4 x)] (ah e))(he:(e != 0)=false)(j i f)(d:Δ)(b:Ξ)(a:Γ)(r7:Θ)(F)(zs:Nat)(ω:af 50 [ct (.mk sT C),aV (.mk V y I N E)] (.eK [bz (.mk j i f d b a r7),ah F]))(ψ:af 30 [bz (.mk j i f d b a r7)] (ah zs))(hv:(F != 0)) :
  gl 33 ⟨l,Y,done,S,W,O⟩ [.c (ah dX),.c (.ip (WR ⟨T,to,vQ,.mk V y I N E,.mk U u Q P M,.mk G K B c4 p,.mk J D q d4 x⟩))] (ah 5) ⟨l,Y,done,S,W,O⟩:=by
 have hc:(bif (H != 0)then true else(A != 0))=false:=by rw[hx,o];rfl
 have bX:(bif false then true else(A != 0))=false:=by rw[o];rfl
 have hq:(bif (F != 0)then true else decide ((zs:Int)>200))=true:=by rw[hv];rfl
 cases hm:wO ⟨l,Y,done,S,W,O⟩with
 |none =>
  refine O5 hm func33 call33 λβ hf=>?_
  repeat' (first|exact wr|refine wz ?_|(intro h;rw[h]))
 |some z =>
  refine O6 hm func33 call33 λβ hf=>?_
  repeat' (first|exact wr|refine wz ?_|(intro h;rw[h]))
def acM(l W done S V)(O:L Int)(dX)(h12:l.aI.length=12)(T to vQ U y I)(N:Δ)(E:Θ)(Q u P)(M:Δ)(K:Θ)(G J B)(c4:Δ)(p:Θ)(D q d3)(d4:Δ)(x:Θ)(t)(r:Γ)(sT)(C:Γ)(H A)(hp:af 49 [aV (.mk Q u P M K)] (.eK [ct (.mk t r),ah H]))(hs:af 49 [aV (.mk G J B c4 p)] (.eK [ct (.mk sT C),ah A]))(hx:(H != 0)=false)(o:(A != 0)=false)(e)(BH:af 28 [ct (.mk t r),ct (.mk sT C),aV (.mk D q d3 d4 x)] (ah e))(he:(e != 0)=false)(j i f)(d:Δ)(b:Ξ)(a:Γ)(r7:Θ)(F)(Y:Nat)(ω:af 50 [ct (.mk sT C),aV (.mk U y I N E)] (.eK [bz (.mk j i f d b a r7),ah F]))(ψ:af 30 [bz (.mk j i f d b a r7)] (ah Y))(hv:(F != 0)=false)(hz:decide ((Y:Int)>200)) :
  gl 33 ⟨l,W,done,S,V,O⟩ [.c (ah dX),.c (.ip (WR ⟨T,to,vQ,.mk U y I N E,.mk Q u P M K,.mk G J B c4 p,.mk D q d3 d4 x⟩))] (ah 5) ⟨l,W,done,S,V,O⟩:=by
 have hc:(bif (H != 0)then true else(A != 0))=false:=by rw[hx,o];rfl
 have bX:(bif false then true else(A != 0))=false:=by rw[o];rfl
 have hq:(bif (F != 0)then true else decide ((Y:Int)>200))=true:=by rw[hv,hz];rfl
 have χ:(bif false then true else decide ((Y:Int)>200))=true:=by rw[hz];rfl
 cases hm:wO ⟨l,W,done,S,V,O⟩with
 |none =>
  refine O5 hm func33 call33 λβ hf=>?_
  repeat' (first|exact wr|refine wz ?_|(intro h;rw[h]))
 |some z =>
  refine O6 hm func33 call33 λβ hf=>?_
  repeat' (first|exact wr|refine wz ?_|(intro h;rw[h]))
def W2(l):(bD (ez l)).length=l.length*1:=by rw[dL (rows:=ez l) (s:=1) (λr V=>by obtain⟨n,_,rfl⟩:=List.mem_map.1 V;rfl),ahY]
def afC(l O done S Y)(V:L Int)(dX)(h12:l.aI.length=12)(ω:V.length<=1000)(Q to vQ d a2 a3)(a4:Δ)(a5:Θ)(b1 b2 b3)(b4:Δ)(b5:Θ)(G z c3)(c4:Δ)(c5:Θ)(d1 d2 d3)(d4:Δ)(P:Θ)(N)(M:Γ)(sT)(C:Γ)(e0 A)(hp:af 49 [aV (.mk b1 b2 b3 b4 b5)] (.eK [ct (.mk N M),ah e0]))(hs:af 49 [aV (.mk G z c3 c4 c5)] (.eK [ct (.mk sT C),ah A]))(hx:(e0 != 0)=false)(hy:(A != 0)=false)(e)(BH:af 28 [ct (.mk N M),ct (.mk sT C),aV (.mk d1 d2 d3 d4 P)] (ah e))(he:(e != 0)=false)(E H I)(u:Δ)(K:Ξ)(J:Γ)(q:Θ)(ev)(zs:Nat)(τ:af 50 [ct (.mk sT C),aV (.mk d a2 a3 a4 a5)] (.eK [bz (.mk E H I u K J q),ah ev]))(ρ:af 30 [bz (.mk E H I u K J q)] (ah zs))(hv:(ev != 0)=false)(hz:decide ((zs:Int)>200)=false)(o w')(y:fJ (l.aI.drop 4) 4=12->o=7/\w'=⟨l,O,done,S,Y,V⟩)
  (x:∀i,fJ (l.aI.drop 4) 4=i->i<12->∃(Ll:eF) (j:Int),Ll.aI.length=12/\af 46 [.agg (di (l.iZ i ⟨2,0,0,.mk N M,.mk sT C,P,.mk E H I u K J q⟩)),ah dX,ah i,ah vQ] (.eK [.agg (di Ll),ah j])/\((j≠0/\o=j/\w'=⟨l,O,done,S,Y,V⟩)\/(j=0/\o=0/\w'=⟨Ll,O,done,S,Y,V++[(i:Int)]⟩))) :
  gl 33 ⟨l,O,done,S,Y,V⟩ [.c (ah dX),.c (.ip (WR ⟨Q,to,vQ,.mk d a2 a3 a4 a5,.mk b1 b2 b3 b4 b5,.mk G z c3 c4 c5,.mk d1 d2 d3 d4 P⟩))] (ah o) w':=by
 have hc:(bif (e0 != 0)then true else(A != 0))=false:=by rw[hx,hy];rfl
 have bX:(bif false then true else(A != 0))=false:=by rw[hy];rfl
 have hq:(bif (ev != 0)then true else decide ((zs:Int)>200))=false:=by rw[hv,hz];rfl
 have π:(bif false then true else decide ((zs:Int)>200))=false:=by rw[hz];rfl
 rcases V with _|⟨p,U⟩
 ·refine O5 (show wO (⟨l,O,done,S,Y,[]⟩:Wk)=none from Z) func33 call33 λβ hf=>?_;have O7:=(show wO (⟨l,O,done,S,Y,[]⟩:Wk)=none from Z)
  repeat' (first|exact wr|refine wz ?_|(intro h;rw[h]))
  refine AK.dg (α:=Nat) (λi=>4<=i/\i<=12/\fJ (l.aI.drop 4) 4=fJ (l.aI.drop i) i) (λi=>12-i) (λi=>[(13,.c (ah (i:Nat))),(0,.ptr 1000000 0),(1,.c (ah dX)),(2,.c (.ip (WR ⟨Q,to,vQ,.mk d a2 a3 a4 a5,.mk b1 b2 b3 b4 b5,.mk G z c3 c4 c5,.mk d1 d2 d3 d4 P⟩))),(7,.ptr 7 0),(9,.ptr 9 0),(12,.ptr 12 0)]) (λ_=>[(7,[.c (ah N),.c (.sl 2 (az M))]),(9,[.c (ah sT),.c (.sl 2 (az C))]),(12,[.c (ah E),.c (ah H),.c (ah I),.c (.str u),.c (.sl 7 (aa K)),.c (.sl 2 (az J)),.c (.sl 5 (aD q))]),(1000000,wB (⟨l,O,done,S,Y,[]⟩:Wk) 0)]) (λ_=>[]) [7,9,12,1000000] 4
   ⟨acd _,bn,Z⟩ ce ce  trivial Z (gh Z Z (gh Z Z (gh Z Z (zq (λh=>absurd Z h) Z)))) Z ?_
  rintro i ⟨h4,hi,W⟩ ih;by_cases D:i<12;rotate_left
  ·obtain rfl:i=12:=(by omega);have hfr:fJ (l.aI.drop 4) 4=12:=(by rw[W,aiJ ai];rfl);obtain⟨rfl,rfl⟩:=y hfr;clear ih x y W;have G:decide (((12:Nat):Int)<12)=false:=(by decide);have z:(((12:Nat):Int)==12):=by decide
   repeat' (first|exact wr|refine wz ?_|(intro h;rw[h]))
  obtain⟨a,t⟩:∃a,l.aI[i]?=some a:=⟨l.aI[i]' ai,cS⟩;rw[cT t]at W;simp only[fJ]at W;have lj:Nat.blt i 12:=by rw[ajd];exact D
  have G:decide ((i:Int)<12):=ace ai;have z:((i:Int)==12)=false:=by rw[ajC];omega
  obtain⟨T,cK,cnt,⟨q1,q2⟩,⟨t1,t2⟩,cd,⟨k1,k2,k3,k4,k5,k6,k7⟩⟩:=a;obtain⟨qq,f⟩:=YV (⟨l,O,done,S,Y,[]⟩:Wk) 0 t;have d0:=f 0 _ Z;clear f;by_cases F:T=0
  ·rw[if_pos F]at W;have A:(T != 0)=false:=(by simpa using F);have n1:(bif decide ((i:Int)<12)then(T != 0)else false)=false:=(by rw[G,A];rfl);have n2:(bif true then(T != 0)else false)=false:=(by rw[A];rfl);obtain⟨Ll,j,Yl,ψ,B⟩:=x i W D;clear ih x y W;have χ:=oO (i:=i) (a:=⟨2,0,0,.mk N M,.mk sT C,P,.mk E H I u K J q⟩) h12;have w0:=D1 t (b:=⟨2,0,0,.mk N M,.mk sT C,P,.mk E H I u K J q⟩) (k:=0) (cs:=[.c (ah 2),.c (ah 0),.c (ah 0),.c (ah N),.c (.sl 2 (az M)),.c (ah sT),.c (.sl 2 (az C)),.c (.sl 5 (aD P)),.c (ah E),.c (ah H),.c (ah I),.c (.str u),.c (.sl 7 (aa K)),.c (.sl 2 (az J)),.c (.sl 5 (aD q))]) Z;rcases B with ⟨r,rfl,rfl⟩|⟨rfl,rfl,rfl⟩
   ·have e2:(o != 0):=by simpa using r
    repeat' (first|exact wr|refine wz ?_|(intro h;rw[h]))
   have wm:bQ 186 [.iI 124 0 1 (([]:L Int)++[(i:Int)]).length] (wB ⟨Ll,O,done,S,Y,[]⟩ 0)=some (wB ⟨Ll,O,done,S,Y,[]++[(i:Int)]⟩ 124):=D4 ⟨Ll,O,done,S,Y,[]⟩ 0 Yl 5 [.iI 124 0 1 (([]:L Int)++[(i:Int)]).length] Z Z Z;have υ:wO ⟨Ll,O,done,S,Y,[]++[(i:Int)]⟩=some (bD (ez ([]++[(i:Int)]))):=rfl;clear O7
   repeat' (first|exact wr|refine wz ?_|refine ag.xg hX kn rfl rfl rfl rfl rfl rfl rfl rfl rfl rfl rfl rfl rfl rfl rfl rfl rfl rfl (λh=>by cases h) rfl rfl rfl (show(0+1)*8<=140737488355328 by decide) rfl (m:=1) rfl ?_|(intro h;rw[h]))
  rw[if_neg F]at W;have A:(T != 0):=by simpa using F
  have n1:(bif decide ((i:Int)<12)then(T != 0)else false)=true:=by rw[G,A];rfl
  have n2:(bif true then(T != 0)else false)=true:=by rw[A];rfl
  have Bd:=ih (i+1) ⟨ai,ai,W⟩ ai;clear ih x y W
  repeat' (first|exact wr|refine wz ?_|(intro h;rw[h]))
  refine AK.again Bd ⟨.inl (dz (i:=i) ai),.inl Z,.inl Z,.inl Z,.inl Z,.inl Z,.inl Z,trivial⟩ ce trivial Z (gh Z Z (gh Z Z (gh Z Z (zq (λh=>absurd Z h) Z)))) Z
 refine O6 (show wO (⟨l,O,done,S,Y,(p::U)⟩:Wk)=some (bD (ez (p::U)))from Z) func33 call33 λβ hf=>?_;have O7:=(show wO (⟨l,O,done,S,Y,(p::U)⟩:Wk)=some (bD (ez (p::U)))from Z)
 repeat' (first|exact wr|refine wz ?_|(intro h;rw[h]))
 refine AK.dg (α:=Nat) (λi=>4<=i/\i<=12/\fJ (l.aI.drop 4) 4=fJ (l.aI.drop i) i) (λi=>12-i) (λi=>[(13,.c (ah (i:Nat))),(0,.ptr 1000000 0),(1,.c (ah dX)),(2,.c (.ip (WR ⟨Q,to,vQ,.mk d a2 a3 a4 a5,.mk b1 b2 b3 b4 b5,.mk G z c3 c4 c5,.mk d1 d2 d3 d4 P⟩))),(7,.ptr 7 0),(9,.ptr 9 0),(12,.ptr 12 0)]) (λ_=>[(7,[.c (ah N),.c (.sl 2 (az M))]),(9,[.c (ah sT),.c (.sl 2 (az C))]),(12,[.c (ah E),.c (ah H),.c (ah I),.c (.str u),.c (.sl 7 (aa K)),.c (.sl 2 (az J)),.c (.sl 5 (aD q))]),(1000000,wB (⟨l,O,done,S,Y,(p::U)⟩:Wk) 1000002),(1000002,(bD (ez (p::U))).map AV.c)]) (λ_=>[]) [7,9,12,1000000,1000002] 4
  ⟨acd _,bn,Z⟩ ce ce  trivial Z (gh Z Z (gh Z Z (gh Z Z (zq (λ_=>rfl) (Px Z))))) Z ?_
 rintro i ⟨h4,hi,W⟩ ih;by_cases D:i<12;rotate_left
 ·obtain rfl:i=12:=by omega
  have hfr:fJ (l.aI.drop 4) 4=12:=by rw[W,aiJ ai];rfl
  obtain⟨rfl,rfl⟩:=y hfr;clear ih x y W;have G:decide (((12:Nat):Int)<12)=false:=by decide
  have z:(((12:Nat):Int)==12):=by decide
  repeat' (first|exact wr|refine wz ?_|(intro h;rw[h]))
 obtain⟨a,t⟩:∃a,l.aI[i]?=some a:=⟨l.aI[i]' ai,cS⟩;rw[cT t]at W;simp only[fJ]at W;have lj:Nat.blt i 12:=by rw[ajd];exact D
 have G:decide ((i:Int)<12):=ace ai;have z:((i:Int)==12)=false:=by rw[ajC];omega
 obtain⟨T,cK,cnt,⟨q1,q2⟩,⟨t1,t2⟩,cd,⟨k1,k2,k3,k4,k5,k6,k7⟩⟩:=a;obtain⟨qq,f⟩:=YV (⟨l,O,done,S,Y,(p::U)⟩:Wk) 1000002 t;have d0:=f 0 _ Z;clear f;by_cases F:T=0
 ·rw[if_pos F]at W;have A:(T != 0)=false:=by simpa using F
  have n1:(bif decide ((i:Int)<12)then(T != 0)else false)=false:=by rw[G,A];rfl
  have n2:(bif true then(T != 0)else false)=false:=by rw[A];rfl
  obtain⟨Ll,j,Yl,ψ,B⟩:=x i W D;clear ih x y W;have χ:=oO (i:=i) (a:=⟨2,0,0,.mk N M,.mk sT C,P,.mk E H I u K J q⟩) h12;have w0:=D1 t (b:=⟨2,0,0,.mk N M,.mk sT C,P,.mk E H I u K J q⟩) (k:=0) (cs:=[.c (ah 2),.c (ah 0),.c (ah 0),.c (ah N),.c (.sl 2 (az M)),.c (ah sT),.c (.sl 2 (az C)),.c (.sl 5 (aD P)),.c (ah E),.c (ah H),.c (ah I),.c (.str u),.c (.sl 7 (aa K)),.c (.sl 2 (az J)),.c (.sl 5 (aD q))]) Z;rcases B with ⟨r,rfl,rfl⟩|⟨rfl,rfl,rfl⟩
  ·have e2:(o != 0):=by simpa using r
   repeat' (first|exact wr|refine wz ?_|(intro h;rw[h]))
  have wm:bQ 186 [.iI 124 0 1 ((p::U)++[(i:Int)]).length] (wB ⟨Ll,O,done,S,Y,(p::U)⟩ 1000002)=some (wB ⟨Ll,O,done,S,Y,(p::U)++[(i:Int)]⟩ 124):=D4 ⟨Ll,O,done,S,Y,(p::U)⟩ 1000002 Yl 5 [.iI 124 0 1 ((p::U)++[(i:Int)]).length] Z Z Z;have υ:wO ⟨Ll,O,done,S,Y,(p::U)++[(i:Int)]⟩=some (bD (ez ((p::U)++[(i:Int)]))):=rfl;clear O7
  repeat' (first|exact wr|refine wz ?_|refine ag.od hX kn Z Z Z Z Z Z Z Z Z Z Z Z Z Z Z (ez (p::U)) [] (ahq _).symm cS (W2 _) Z Z Z Z Z Z Z (by simp only[ahY,aat,aav]at ω ⊢;omega) (show ez (p::U)++[.int .i64 (i:Int)]=ez (p::U++[(i:Int)])by simp) (m:=(p::U++[(i:Int)]).length) cS Z ?_|(intro h;rw[h]))
 rw[if_neg F]at W;have A:(T != 0):=by simpa using F
 have n1:(bif decide ((i:Int)<12)then(T != 0)else false)=true:=by rw[G,A];rfl
 have n2:(bif true then(T != 0)else false)=true:=by rw[A];rfl
 have Bd:=ih (i+1) ⟨ai,ai,W⟩ ai;clear ih x y W
 repeat' (first|exact wr|refine wz ?_|(intro h;rw[h]))
 refine AK.again Bd ⟨.inl (dz (i:=i) ai),.inl Z,.inl Z,.inl Z,.inl Z,.inl Z,.inl Z,trivial⟩ ce trivial Z (gh Z Z (gh Z Z (gh Z Z (zq (λ_=>rfl) (Px Z))))) Z
end Go.Proofs
