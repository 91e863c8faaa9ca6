/- A part of the proof. -/
import Derived.Test.YtpnpbmbdkinajaaGreatDoorChn11H
import Derived.Test.YtpnpbmbdkinajaaGreatDoorTckFH
set_option linter.all false
set_option maxHeartbeats 0
set_option maxRecDepth 100000
open Go.IntKind Go.Proofs.Tryz
namespace Go.Proofs
open Go.cE
section
variable {m:Int}
def JK{U}:∀l c g x,x∈l->(tT m x U).2<=(kC m c g l U).2
 |[],_,_,_,h=>by simp at h
 |y::l,c,g,x,h=>by
  rw[Am];rcases List.mem_cons.1 h with rfl|h
  exact Int.le_trans (OS _ _).2 (G4 l _ _);exact JK l _ _ x h
def abw{y z t0 t1}:(tT m y t0).2<=(tT m (aU y z) (.mk 11 [t0,t1])).2/\(tT m z t1).2<=(tT m (aU y z) (.mk 11 [t0,t1])).2:=by
 have e:tT m (aU y z) (.mk 11 [t0,t1])=(i64.wrap (i64.wrap (0+(tT m y t0).1)+(tT m z t1).1),mx (mx 0 (tT m y t0).2) (tT m z t1).2):=by rw[vm];show Cm m 0 0 [y,z] [t0,t1]=_;rw[Cm,Cm,Cm]<;>simp
 rw[e];exact⟨Int.le_trans (OS _ _).2 (OS _ _).1,(OS _ _).2⟩
def agT:∀l c g a,a∈l->a.is=2->(tT m a.keep a.store).2<=(sT m c g l).2
 |[],_,_,_,h,_=>by simp at h
 |y::l,c,g,a,h,Y=>by
  rw[adU];rcases List.mem_cons.1 h with rfl|h
  rw[if_pos Y];exact Int.le_trans (OS _ _).2 (Wu l _ _);split;exact agT l _ _ a h Y;exact agT l _ _ a h Y
end
section
variable {φ:Int->Ty->Vl->Bool}
def U4{U}:∀{l},(∀x∈l,wT φ x U<=1073741824*aG x)->eP φ l U<=1073741824*aH l
 |[],_=>ahp _
 |x::l,h=>by have Y:=h x cS;have T:=U4 (l:=l) (λy V=>h y agc);simp only[eP,aH];omega
def JL{x}{l:Ξ}{U}:eP φ (x::l) U=wT φ x U+eP φ l U:=rfl
def JM{U}:eP φ [] U=0:=rfl
def ai5{a}{l:L Acc}:sW φ (a::l)=aW φ a+sW φ l:=by simp only[sW]
def ai6{B}:∀{l},(∀a∈l,aW φ a<=B)->sW φ l<=B*l.length
 |[],_=>ahp _
 |a::l,h=>by have Y:=h a cS;have U:=ai6 (l:=l) (λy V=>h y agc);rw[ai5,aat,Nat.mul_succ];omega
end
end Go.Proofs
namespace Go.Proofs
open Go.cE
attribute [local irreducible] AK ag aZ bS de cA wT eP cD tT kC Cm sT sW aW fK gk cq di gL cx oF
def uh{φ:Int->Ty->Vl->Bool}(m W)(V:Γ)(G u B)(c4:Δ)(p:Ξ)(S:Γ)(Q:Θ)(P:∀a t x,φ a t x=(decide (a=m)&&(cx t (.mk W V)&&oF x (.mk G u B c4 p S Q)))):∀k,k<=12400000->∀v t,aG v<=k->bh t<=1099511627776->fK t v->gk t->(tT m v t).2<=1073741824->af 21 [ct t,bz v,.int .i64 m,ct (.mk W V),bz (.mk G u B c4 p S Q)] (.int .i64 (wT φ v t))/\wT φ v t<=1073741824*aG v
 |0,_,.mk ..,_,hv,_,_,_,_=>by simp only[aG]at hv;omega
 |k+1,hk,v,.mk T ts,hv,hts,ru,hst,hb=>by
  obtain⟨N,K,J⟩:=bW ru;by_cases Gr:T=15
  ·subst Gr;obtain⟨t0,rfl,_⟩:=dD (bw N) bn;obtain⟨n,a,x,rfl,hn,_⟩:=pF K J;have e:tT m (.mk 15 n a [] [x] [] []) (.mk 15 [t0])=(if a=m then n else 0,n):=(by rw[vm];rfl);have Y:wT φ (.mk 15 n a [] [x] [] []) (.mk 15 [t0])=if(decide (a=m)&&(cx t0 (.mk W V)&&oF x (.mk G u B c4 p S Q)))=true then n.toNat else 0:=(by rw[JC,P])
   rw[e]at hb;have χ:n<=1073741824:=hb;simp only[aG,aH]at hv;have υ:1<=aG (.mk 15 n a [] [x] [] []):=(by simp only[aG];omega);refine⟨?_,by rw[Y];split<;>omega⟩;have J5:=gC t0 (.mk W V) (by simp only[bh,bf]at hts;omega);have GC:=vj x (.mk G u B c4 p S Q) ai;rw[Y];have τ:(n.toNat:Int)=n:=Int.toNat_of_nonneg ai;clear ru N K J hst e Y hb χ υ hts hv;obtain⟨U,A⟩:=t0;obtain⟨x1,x2,x3,x4,x5,x6,x7⟩:=x;generalize cx (.mk U A) (.mk W V)=s1 at *;generalize oF (.mk x1 x2 x3 x4 x5 x6 x7) (.mk G u B c4 p S Q)=s2 at *;by_cases c:a=m
   ·have e1:(a==m):=(by simpa using c);rw[ace c];cases s1 with
    |false =>
     show aZ _ _ _ _ (.int .i64 ((0:Nat):Int));exact qdw func21 call21
    |true =>
     cases s2 with
     |false =>
      show aZ _ _ _ _ (.int .i64 ((0:Nat):Int));exact qdw func21 call21
     |true =>
      rw[if_pos (show(true&&(true&&true)) from Z),τ];exact qdw func21 call21
   have e1:(a==m)=false:=(by simpa using c);rw[acf c];show aZ _ _ _ _ (.int .i64 ((0:Nat):Int));exact qdw func21 call21
  by_cases J3:T=14;subst J3;rw[lU cS];refine⟨?_,ahp _⟩;clear ru N K J hst hts hb hv;obtain⟨d,y2,y3,y4,y5,y6,y7⟩:=v;exact qdw func21 call21;obtain⟨c8,D⟩:=R2 hst J3;by_cases CX:T=12;subst CX;obtain⟨t0,t1,rfl,_⟩:=dr (bw N) bn;simp only[bh,bf]at hts;obtain⟨y,⟨rfl,C⟩|⟨rfl,C⟩,q⟩:=N7 K J;simp only[aG,aH]at hv;have e:tT m (.mk 12 0 0 [] [y] [] []) (.mk 12 [t0,t1])=kC m 0 0 [y] t0:=(by rw[vm];rfl);rw[e]at hb;obtain⟨F,I⟩:=uh m W V G u B c4 p S Q P k ai y t0 ai ai (eX (fQ N _ cS) ⟨C,q⟩) (j8 (l:=[t0,t1]) 0 D) (Int.le_trans (JK [y] 0 0 y cS) hb);have Y:wT φ (.mk 12 0 0 [] [y] [] []) (.mk 12 [t0,t1])=wT φ y t0:=(by rw[lX];show eP φ [y] t0=_;rw[JL,JM,aiI]);rw[Y];refine⟨?_,aeo⟩;clear ru N K J C q hv e Y hst D hts hb I;obtain⟨U,A⟩:=t0;obtain⟨T1,o⟩:=t1;obtain⟨d,y2,y3,y4,y5,y6,y7⟩:=y;exact qdw func21 call21;simp only[aG,aH]at hv;have e:tT m (.mk 12 1 0 [] [y] [] []) (.mk 12 [t0,t1])=kC m 0 0 [y] t1:=(by rw[vm];rfl);rw[e]at hb;obtain⟨F,I⟩:=uh m W V G u B c4 p S Q P k ai y t1 ai ai (eX (fQ N _ cS) ⟨C,q⟩) (j8 (l:=[t0,t1]) 1 D) (Int.le_trans (JK [y] 0 0 y cS) hb);have Y:wT φ (.mk 12 1 0 [] [y] [] []) (.mk 12 [t0,t1])=wT φ y t1:=(by rw[lX];show eP φ [y] t1=_;rw[JL,JM,aiI]);rw[Y];refine⟨?_,aeo⟩;clear ru N K J C q hv e Y hst D hts hb I;obtain⟨U,A⟩:=t0;obtain⟨T1,o⟩:=t1;obtain⟨d,y2,y3,y4,y5,y6,y7⟩:=y;exact qdw func21 call21;by_cases vR:T=9\/T=10
  ·obtain⟨t0,l,rfl,rfl,hl⟩:=Ww vR N K J;simp only[aG]at hv;simp only[bh,bf]at hts;have e:tT m (.mk T 0 0 [] l [] []) (.mk T [t0])=kC m 0 0 l t0:=(by rw[vm];rcases vR with rfl|rfl<;>rfl);rw[e]at hb;have rF:∀x∈l,af 21 [ct t0,bz x,.int .i64 m,ct (.mk W V),bz (.mk G u B c4 p S Q)] (.int .i64 (wT φ x t0:Nat))/\wT φ x t0<=1073741824*aG x:=λx O=>uh m W V G u B c4 p S Q P k ai x t0 sy ai (hl x O) (j8 (l:=[t0]) 0 D) (Int.le_trans (JK l 0 0 x O) hb);have I:=U4 (λx O=>(rF x O).2);have Y:wT φ (.mk T 0 0 [] l [] []) (.mk T [t0])=eP φ l t0:=by rw[lX];rcases vR with rfl|rfl<;>rfl
   rw[Y];refine⟨?_,acT⟩;have ψ:=λx O=>(rF x O).1;have Fg:=iT l;have ρ:eP φ l t0<=13314398617600000:=by omega
   clear hl K J ru N rF e Y hst D hb I hts;obtain⟨U,A⟩:=t0;rcases vR with rfl|rfl
   ·refine qn func21 call21 λβ hf=>?_
    repeat' (first|refine ju ?_|refine zc ?_ ?_|(intro h;first|(cases h;done)|rw[h]|skip))
    refine AK.dg (α:=Nat×Nat) (λz=>z.1<=l.length/\z.2+eP φ (l.drop z.1) (.mk U A)=eP φ l (.mk U A)) (λz=>l.length-z.1)
     (λz=>[(50,Υ z.1),(49,Υ (aa l).length),(48,.c (.sl 7 (aa l))),(11,Υ z.2),(2,Υ m),(5,.ptr 5 0),(8,.ptr 8 0),(9,.ptr 9 0)])
     (λ_=>[(5,[Υ 9,.c (.sl 2 (az [.mk U A]))]),(8,[Υ W,.c (.sl 2 (az V))]),(9,[Υ G,Υ u,Υ B,.c (.str c4),.c (.sl 7 (aa p)),.c (.sl 2 (az S)),.c (.sl 5 (aD Q))])]) (λ_=>[]) [5,8,9] (0,0)
     ⟨ahp _,ahr _⟩ ce ⟨Z,Z,Z,trivial⟩ trivial Z Z Z ?_
    rintro⟨i,M⟩ ⟨H,E⟩ ih;simp only at H E;rcases fU l i H with ⟨x,O,hm⟩|j
    ·have hc:=nM O;have h2:=bp O;rw[cT O,JL]at E;have F:=ψ x hm;generalize wT φ x (.mk U A)=r at F E;have hw:some (AV.c (CV.int .i64 (i64.wrap ((M:Int)+(r:Int)))))=some (AV.c (CV.int .i64 ((M+r:Nat):Int))):=(by rw[gW ai ai,Int.natCast_add]);obtain⟨x1,x2,x3,x4,x5,x6,x7⟩:=x
     repeat' (first|refine ju ?_|refine zc ?_ ?_|(intro h;first|(cases h;done)|rw[h]|skip)|refine uI Z (i) Z (eV O) Z ?_|refine uC Z F ?_|refine uI Z (0) Z (Z) Z ?_)
     exact agB
    have hc:=kP j;rw[j,aho,JM]at E;clear ih;obtain rfl:M=eP φ l (.mk U A):=(by omega);exact dw
   refine qn func21 call21 λβ hf=>?_
   repeat' (first|refine ju ?_|refine zc ?_ ?_|(intro h;first|(cases h;done)|rw[h]|skip))
   refine AK.dg (α:=Nat×Nat) (λz=>z.1<=l.length/\z.2+eP φ (l.drop z.1) (.mk U A)=eP φ l (.mk U A)) (λz=>l.length-z.1)
    (λz=>[(50,Υ z.1),(49,Υ (aa l).length),(48,.c (.sl 7 (aa l))),(11,Υ z.2),(2,Υ m),(5,.ptr 5 0),(8,.ptr 8 0),(9,.ptr 9 0)])
    (λ_=>[(5,[Υ 10,.c (.sl 2 (az [.mk U A]))]),(8,[Υ W,.c (.sl 2 (az V))]),(9,[Υ G,Υ u,Υ B,.c (.str c4),.c (.sl 7 (aa p)),.c (.sl 2 (az S)),.c (.sl 5 (aD Q))])]) (λ_=>[]) [5,8,9] (0,0)
    ⟨ahp _,ahr _⟩ ce ⟨Z,Z,Z,trivial⟩ trivial Z Z Z ?_
   rintro⟨i,M⟩ ⟨H,E⟩ ih;simp only at H E;rcases fU l i H with ⟨x,O,hm⟩|j
   ·have hc:=nM O;have h2:=bp O;rw[cT O,JL]at E;have F:=ψ x hm;generalize wT φ x (.mk U A)=r at F E;have hw:some (AV.c (CV.int .i64 (i64.wrap ((M:Int)+(r:Int)))))=some (AV.c (CV.int .i64 ((M+r:Nat):Int))):=(by rw[gW ai ai,Int.natCast_add]);obtain⟨x1,x2,x3,x4,x5,x6,x7⟩:=x
    repeat' (first|refine ju ?_|refine zc ?_ ?_|(intro h;first|(cases h;done)|rw[h]|skip)|refine uI Z (i) Z (eV O) Z ?_|refine uC Z F ?_|refine uI Z (0) Z (Z) Z ?_)
    exact agB
   have hc:=kP j;rw[j,aho,JM]at E;clear ih;obtain rfl:M=eP φ l (.mk U A):=(by omega);exact dw
  by_cases CW:T=11
  ·subst CW;obtain⟨t0,t1,rfl,_⟩:=dr (bw N) bn;obtain⟨y,z,rfl,C,hz⟩:=mL K J;simp only[aU,aG,aH]at hv;simp only[bh,bf]at hts;obtain⟨g1,g2⟩:=abw (m:=m) (y:=y) (z:=z) (t0:=t0) (t1:=t1);obtain⟨J5,p1⟩:=uh m W V G u B c4 p S Q P k ai y t0 ai ai (eX (fQ N _ cS) C) (j8 (l:=[t0,t1]) 0 D) (Int.le_trans g1 hb);obtain⟨GC,p2⟩:=uh m W V G u B c4 p S Q P k ai z t1 ai ai (eX (fQ N _ cS) hz) (j8 (l:=[t0,t1]) 1 D) (Int.le_trans g2 hb);have Y:wT φ (aU y z) (.mk 11 [t0,t1])=wT φ y t0+wT φ z t1:=rV;have π:aG y+aG z<=12400000:=(by omega);have ω:aG (aU y z)=0+(aG y+(aG z+0))+0+0+1:=rfl;rw[Y,ω];refine⟨?_,ai⟩;generalize wT φ y t0=r1 at *;generalize wT φ z t1=r2 at *;have ο:some (AV.c (CV.int .i64 (i64.wrap (((0:Nat):Int)+(r1:Int)))))=some (AV.c (CV.int .i64 (r1:Int))):=(by rw[gW ai ai,Int.natCast_zero,Int.zero_add]);have Yj:some (AV.c (CV.int .i64 (i64.wrap ((r1:Int)+(r2:Int)))))=some (AV.c (CV.int .i64 ((r1+r2:Nat):Int))):=(by rw[gW ai ai,Int.natCast_add]);clear ru N K J C hz hst D Y ω p1 p2 hv π hts hb g1 g2;obtain⟨U,A⟩:=t0;obtain⟨T1,o⟩:=t1;obtain⟨d,y2,y3,y4,y5,y6,y7⟩:=y;obtain⟨z1,z2,z3,z4,z5,z6,z7⟩:=z;have e0:decide (((0:Nat):Int)<((2:Nat):Int)):=(by decide);have e1:decide (((1:Nat):Int)<((2:Nat):Int)):=(by decide);have e2:decide (((2:Nat):Int)<((2:Nat):Int))=false:=(by decide);refine qn func21 call21 λβ hf=>?_
   repeat' (first|refine ju ?_|refine zc ?_ ?_|(intro h;first|(cases h;done)|rw[h]|skip))
   refine AK.dg (α:=Nat×Nat) (λz=>z=(0,0)\/z=(1,r1)\/z=(2,r1+r2)) (λz=>2-z.1)
    (λz=>[(71,Υ z.1),(70,Υ ((2:Nat):Int)),(69,.c (.sl 7 (aa [.mk d y2 y3 y4 y5 y6 y7,.mk z1 z2 z3 z4 z5 z6 z7]))),(11,Υ z.2),(2,Υ m),(5,.ptr 5 0),(8,.ptr 8 0),(9,.ptr 9 0)])
    (λ_=>[(5,[Υ 11,.c (.sl 2 (az [.mk U A,.mk T1 o]))]),(8,[Υ W,.c (.sl 2 (az V))]),(9,[Υ G,Υ u,Υ B,.c (.str c4),.c (.sl 7 (aa p)),.c (.sl 2 (az S)),.c (.sl 5 (aD Q))])]) (λ_=>[]) [5,8,9] (0,0)
    (.inl Z) ce ⟨Z,Z,Z,trivial⟩ trivial Z Z Z ?_
   rintro⟨i,M⟩ H ih;rcases H with H|H|H
   ·cases H
    repeat' (first|refine ju ?_|refine zc ?_ ?_|(intro h;first|(cases h;done)|rw[h]|skip)|refine uI Z (0) Z (Z) Z ?_|refine uC Z J5 ?_)
    exact AK.again (ih (1,_) (.inr (.inl Z)) (by show 2-1<2-0;omega)) ⟨.inl (dz (i:=0) ai),.inl Z,.inl Z,.inl ο,.inl Z,.inl Z,.inl Z,.inl Z,trivial⟩ ⟨Z,Z,Z,trivial⟩ trivial Z Z Z
   ·cases H
    repeat' (first|refine ju ?_|refine zc ?_ ?_|(intro h;first|(cases h;done)|rw[h]|skip)|refine uI Z (1) Z (Z) Z ?_|refine uC Z GC ?_)
    exact AK.again (ih (2,_) (.inr (.inr Z)) (by show 2-2<2-1;omega)) ⟨.inl (dz (i:=1) ai),.inl Z,.inl Z,.inl Yj,.inl Z,.inl Z,.inl Z,.inl Z,trivial⟩ ⟨Z,Z,Z,trivial⟩ trivial Z Z Z
   cases H;clear ih;exact dw
  by_cases CY:T=13
  ·subst CY;obtain⟨t0,t1,rfl,_⟩:=dr (bw N) bn;obtain⟨l,rfl,_,h1,_,h3⟩:=va K J;have f:=aa7 (φ:=φ) (NT N).1;simp only[aG]at hv;simp only[bh,bf]at hts;have e:tT m (.mk 13 0 0 [] l [] []) (.mk 13 [t0,t1])=kC m 0 0 l (.mk 11 [t0,t1]):=(by rw[vm];rfl);rw[e]at hb;have rF:∀x∈l,∃y z,x=aU y z/\wT φ x (.mk 11 [t0,t1])=wT φ z t1/\(af 21 [ct t1,bz z,.int .i64 m,ct (.mk W V),bz (.mk G u B c4 p S Q)] (.int .i64 (wT φ z t1:Nat)))/\wT φ x (.mk 11 [t0,t1])<=1073741824*aG x:=λx O=>by obtain⟨y,z,rfl,C,hz⟩:=mL ((eI _ l).1 h1 x O) (rq h3 O);have O8:=dV O;have ω:aG (aU y z)=0+(aG y+(aG z+0))+0+0+1:=rfl;obtain⟨q1,q2⟩:=uh m W V G u B c4 p S Q P k ai z t1 ai ai (eX (fQ N _ cS) hz) (j8 (l:=[t0,t1]) 1 D) (Int.le_trans (Int.le_trans (abw (y:=y) (t0:=t0)).2 (JK l 0 0 _ O)) hb);have Y:wT φ (aU y z) (.mk 11 [t0,t1])=wT φ z t1:=(by rw[rV,f,ahr]);exact⟨y,z,Z,Y,q1,by rw[Y];omega⟩
   have I:=U4 (λx O=>(rF x O).elim λ_ h=>h.elim λ_ h=>h.2.2.2);have Y:wT φ (.mk 13 0 0 [] l [] []) (.mk 13 [t0,t1])=eP φ l (.mk 11 [t0,t1]):=by rw[lX];rfl
   rw[Y];refine⟨?_,acT⟩;have Fg:=iT l;have ρ:eP φ l (.mk 11 [t0,t1])<=13314398617600000:=(by omega);clear K J ru N h1 h3 e Y hst D hb I hts f;obtain⟨U,A⟩:=t0;obtain⟨T1,o⟩:=t1;refine qn func21 call21 λβ hf=>?_
   repeat' (first|refine ju ?_|refine zc ?_ ?_|(intro h;first|(cases h;done)|rw[h]|skip))
   refine AK.dg (α:=Nat×Nat) (λz=>z.1<=l.length/\z.2+eP φ (l.drop z.1) (.mk 11 [.mk U A,.mk T1 o])=eP φ l (.mk 11 [.mk U A,.mk T1 o])) (λz=>l.length-z.1)
    (λz=>[(110,Υ z.1),(109,Υ (aa l).length),(108,.c (.sl 7 (aa l))),(11,Υ z.2),(2,Υ m),(5,.ptr 5 0),(8,.ptr 8 0),(9,.ptr 9 0)])
    (λ_=>[(5,[Υ 13,.c (.sl 2 (az [.mk U A,.mk T1 o]))]),(8,[Υ W,.c (.sl 2 (az V))]),(9,[Υ G,Υ u,Υ B,.c (.str c4),.c (.sl 7 (aa p)),.c (.sl 2 (az S)),.c (.sl 5 (aD Q))])]) (λ_=>[]) [5,8,9] (0,0)
    ⟨ahp _,ahr _⟩ ce ⟨Z,Z,Z,trivial⟩ trivial Z Z Z ?_
   rintro⟨i,M⟩ ⟨H,E⟩ ih;simp only at H E;rcases fU l i H with ⟨x,O,hm⟩|j
   ·have hc:=nM O;have h2:=bp O;rw[cT O,JL]at E;obtain⟨y,z,rfl,ex,F,_⟩:=rF x hm;rw[<- ex]at F;obtain⟨d,y2,y3,y4,y5,y6,y7⟩:=y;obtain⟨z1,z2,z3,z4,z5,z6,z7⟩:=z;rw[aU]at O ex F E;generalize wT φ (.mk 11 0 0 [] [.mk d y2 y3 y4 y5 y6 y7,.mk z1 z2 z3 z4 z5 z6 z7] [] []) (.mk 11 [.mk U A,.mk T1 o])=r at F E;have hw:some (AV.c (CV.int .i64 (i64.wrap ((M:Int)+(r:Int)))))=some (AV.c (CV.int .i64 ((M+r:Nat):Int))):=by rw[gW ai ai,Int.natCast_add]
    skip
    repeat' (first|refine ju ?_|refine zc ?_ ?_|(intro h;first|(cases h;done)|rw[h]|skip)|refine uI Z (i) Z (eV O) Z ?_|refine uC Z F ?_|refine uI Z (1) Z (Z) Z ?_)
    exact agB
   have hc:=kP j;rw[j,aho,JM]at E;clear ih;obtain rfl:M=eP φ l (.mk 11 [.mk U A,.mk T1 o]):=(by omega);exact dw
  have Y:wT φ v (.mk T ts)=0:=by rw[lX];simp only[cL,Gr,CW,CX,CY,c8,aiQ];rw[if_neg vR]
  rw[Y];refine⟨?_,ahp _⟩;have e1:(T==15)=false:=by simpa using Gr
  have e2:(T==9)=false:=by simpa using λh=>vR (.inl h)
  have e3:(T==10)=false:=by simpa using λh=>vR (.inr h)
  have e4:(T==11)=false:=by simpa using CW
  have e5:(T==12)=false:=by simpa using CX
  have e6:(T==13)=false:=by simpa using CY
  clear ru N K J hst hts hb hv D Y;obtain⟨d,y2,y3,y4,y5,y6,y7⟩:=v;exact qdw func21 call21
def fH(m:Int)(w:Ty)(c:Vl):Int->Ty->Vl->Bool:=λa t x=>decide (a=m)&&(cx t w&&oF x c)
def U5(m w c v t)(J:aG v<=12400000)(u:bh t<=1099511627776)(hf:fK t v)(I:gk t)(T:(tT m v t).2<=1073741824):af 21 [ct t,bz v,.int .i64 m,ct w,bz c] (.int .i64 (wT (fH m w c) v t))/\wT (fH m w c) v t<=13314398617600000:=by obtain⟨W,Y⟩:=w;obtain⟨G,V,B,c4,p,U,S⟩:=c;obtain⟨Q,P⟩:=uh (φ:=fH m (.mk W Y) (.mk G V B c4 p U S)) m W Y G V B c4 p U S (λ_ _ _=>rfl) _ J v t (acd _) u hf I T;exact⟨Q,ai⟩
end Go.Proofs
namespace Go.Proofs
open Go.cE
def R5{W}{C:Ψ}(q:∀l b,pQ l->yB b->b.bC<=3000->af W (.agg (di l) :: .agg (di (iV l b).1)::qc b::yY (iV l b).2::C) (.bool true))(F)(p:∀b∈F,yB b) :
  af 6 [.sl 5 (hD F),.sX W C] (.eK [.agg (di (O4 40 vz F)),.bool true]):=by
 have hn:=D2;have SJ:=Fm;have t:=uF;obtain⟨R,r⟩:∃R,R=O4 40 vz F:=⟨_,rfl⟩;rw[<- r];generalize vz=L0 at *;have h12:=t.h12;refine qn func6 call6 λβ hf=>?_
 repeat' (first|exact wp|refine wz ?_)
 refine AK.gK [(4,4),(6,6)] [] (env':=[(0,.c (.sl 5 (hD F))),(1,.c (.sX W C)),(4,.ptr 4 0),(6,.ptr 6 0),(7,.c (ah (0:Nat)))]) (bs':=[(4,List.replicate 181 .any),(6,cq L0)]) (ts':=[]) (us':=[4,6])
  ce  ⟨⟨_,_,Z,Z,jD Z Z⟩,⟨_,_,Z,Z,qd⟩,trivial⟩ Z ?_
 refine AK.dg (α:=Nat×eF) (λz=>pQ z.2/\z.1<=F.length/\z.1<=40/\R=O4 (40-z.1) z.2 (F.drop z.1)) (λz=>F.length-z.1)
  (λz=>[(0,.c (.sl 5 (hD F))),(1,.c (.sX W C)),(4,.ptr 4 0),(6,.ptr 6 0),(7,.c (ah (z.1:Nat)))]) (λz=>[(4,List.replicate 181 .any),(6,cq z.2)]) (λ_=>[]) [4,6] (0,L0)
  ⟨t,ahp _,ahp _,r⟩ ce ⟨Z,Z,trivial⟩ trivial Z (gh Z Z (gh Z (fD _ _) Z)) Z ?_
 rintro⟨k,l⟩ ⟨E,f,T,G⟩ ih;simp only at E f T G ih;have zl:=E.h12;have d:=zb F;by_cases Q:k<F.length/\k<40;rotate_left
 ·have P:R=l:=by
   rw[G];by_cases h:k<40
   ·rw[aiJ ai];cases 40-k<;>rfl
   rw[show 40-k=0 by omega];rfl
  subst P;clear ih;have U:(bif decide ((k:Int)<(((hD F).length:Nat):Int))then decide ((k:Int)<40)else false)=false:=by rw[d];by_cases h:k<F.length;rw[ace ai,acf ai];rfl;rw[acf ai];rfl
  by_cases h:k<F.length
  ·have A:decide ((k:Int)<(((hD F).length:Nat):Int)):=ace ai;rw[A]at U
   repeat' (first|exact wp|refine wz ?_|(intro h;rw[h]))
  have A:decide ((k:Int)<(((hD F).length:Nat):Int))=false:=acf ai;rw[A]at U
  repeat' (first|exact wp|refine wz ?_|(intro h;rw[h]))
 obtain⟨b,N⟩:∃o,F[k]?=some o:=⟨_,ahl Q.1⟩;rw[cT N,show 40-k=(40-(k+1))+1 by omega]at G;simp only[O4]at G;have M:=p b (acm N);obtain⟨K,B⟩:=CG M;have j:=qN E (BG b) B K;have V:=oP E K B;have Y:=q l (BG b) E K B;have J:=zd F k b N;have A:decide ((k:Int)<(((hD F).length:Nat):Int)):=ace ai;have U:(bif decide ((k:Int)<(((hD F).length:Nat):Int))then decide ((k:Int)<40)else false)=true:=by rw[A,ace ai];rfl
 rw[A]at U;obtain⟨x,u⟩:∃x,x=BG b:=⟨_,rfl⟩;rw[<- u]at j V Y G;generalize iV l x=y at *;obtain⟨Ll,⟨code,done,gs,aj,I⟩⟩:=y;simp only at j V Y G;have zL:=V.h12;have D:=ih (k+1,Ll) ⟨V,by show k+1<=F.length;omega,by show k+1<=40;omega,G⟩ (by show F.length-(k+1)<F.length-k;omega);clear ih;obtain⟨src,S,H,O,ops⟩:=b;by_cases c4:3000<O
 ·have a:decide (O>3000):=ace c4;obtain rfl:x=⟨src,S,H,3000,ops⟩:=by rw[u];unfold BG;dsimp only;rw[if_pos c4]
  repeat' (first|exact wp|refine wz ?_|refine ag.Ht kn Z Z Z Z (kT Z (kT Z Z)) Y ?_|refine ag.store hX kn Z Z Z Z Z Z Z Z (gT ew Z) (eN ew (gp ew)) Z ?_|(intro h;rw[h]))
  exact agC
 have a:decide (O>3000)=false:=acf c4;obtain rfl:x=⟨src,S,H,O,ops⟩:=by rw[u];unfold BG;dsimp only;rw[if_neg c4]
 repeat' (first|exact wp|refine wz ?_|refine ag.Ht kn Z Z Z Z (kT Z (kT Z Z)) Y ?_|refine ag.store hX kn Z Z Z Z Z Z Z Z (gT ew Z) (eN ew (gp ew)) Z ?_|(intro h;rw[h]))
 exact agC
attribute [local irreducible] AK ag aZ bS de cA cq di gL eF.cF eF.iZ wB wF gl tT kC Cm wT eP cD sT sW dH
def JN(Ll)(q:pQ Ll)(m w c)(x:(sT m 0 0 Ll.aI).2<=1073741824):af 14 [.agg (di Ll),.int .i64 m,ct w,bz c] (.int .i64 (sW (fH m w c) Ll.aI))/\sW (fH m w c) Ll.aI<=159772783411200000:=by
 have U:=q.h12;have Y:∀(i:Nat)(a:Acc),Ll.aI[i]?=some a->a.is=2->af 21 [ct a.store,bz a.keep,.int .i64 m,ct w,bz c] (.int .i64 (wT (fH m w c) a.keep a.store:Nat))/\wT (fH m w c) a.keep a.store<=13314398617600000:=λi a V F=>by obtain⟨b1,b2,b3,j,f,b6⟩:=zy (q.get V) F;have t:=q.size a (acm V);exact U5 m w c a.keep a.store t.2.2 (by have:=t.1;omega) f (DH j) (Int.le_trans (agT Ll.aI 0 0 a (acm V) F) x)
 have M:sW (fH m w c) Ll.aI<=159772783411200000:=by
  have:=ai6 (φ:=fH m w c) (B:=13314398617600000) (l:=Ll.aI) (λa V=>by
   obtain⟨i,H⟩:=List.mem_iff_getElem?.1 V;by_cases F:a.is=2;rw[show aW (fH m w c) a=wT (fH m w c) a.keep a.store from if_pos F];exact(Y i a H F).2
   rw[show aW (fH m w c) a=0 from if_neg F];exact ahp _)
  rw[U]at this;omega
 refine⟨?_,M⟩;have T:=λi a h F=>(Y i a h F).1;clear Y x;generalize fH m w c=φ at *;obtain⟨W,d⟩:=w;obtain⟨b,u,c3,c4,c5,c6,c7⟩:=c;refine qn func14 call14 λβ hf=>?_
 repeat' (first|exact wq|refine wz ?_|refine ag.dy hX kn Z Z Z Z Z Z Z (ud ew Z Z) ?_)
 refine AK.dg (α:=Nat×Nat) (λz=>z.1<=12/\z.2+sW φ (Ll.aI.drop z.1)=sW φ Ll.aI) (λz=>12-z.1) (λz=>[(14,.c (ah (z.1:Nat))),(13,.agg (gL Ll)),(9,.c (ah (z.2:Nat))),(1,Υ m),(6,.ptr 6 0),(7,.ptr 7 0)]) (λ_=>[(6,[Υ W,.c (.sl 2 (az d))]),(7,[Υ b,Υ u,Υ c3,.c (.str c4),.c (.sl 7 (aa c5)),.c (.sl 2 (az c6)),.c (.sl 5 (aD c7))])]) (λ_=>[]) [6,7] (0,0)
  ⟨ahp _,ahr _⟩ ce ⟨Z,Z,trivial⟩ trivial aeT Z Z ?_
 rintro⟨i,I⟩ ⟨H,E⟩ ih;simp only at H E;by_cases ω:i<12
 ·have e1:decide ((i:Int)<12):=ace ai;have o:Nat.blt i 12:=by rw[ajd];omega
  have P:=gm (l:=Ll) (i:=i) U ai ai;rw[acn]at P;have y:=T i _ P;rw[cT P,ai5]at E;generalize aR Ll i=A at *;by_cases u:A.is=2
  ·rw[show aW φ A=wT φ A.keep A.store from if_pos u]at E;have y:=y u;have Q:(A.is==2):=by simpa using u
   generalize wT φ A.keep A.store=r at *;have D:=ih (i+1,I+r) ⟨ae3,N2⟩ adv;have hw:some (AV.c (CV.int .i64 (i64.wrap ((I:Int)+(r:Int)))))=some (AV.c (ah ((I+r:Nat):Int))):=(by rw[gW ai ai,Int.natCast_add]);clear ih E T;obtain⟨S,O,Wv,⟨N,K⟩,⟨J,G⟩,cd',⟨q1,q2,q3,q4,q5,q6,q7⟩⟩:=A;obtain⟨r3,C,p⟩:=xL U P;simp only at Q y D
   repeat' (first|exact wq|refine wz ?_|refine ag.eW hX kn Z Z Z Z Z Z Z Z Z o C (eJ Z Z p) ?_|(intro h;rw[h]))
   exact AK.again D ⟨.inl (dz (i:=i) ai),.inl Z,.inl hw,.inl Z,.inl Z,.inl Z,trivial⟩ ⟨Z,Z,trivial⟩ trivial aeT Z Z
  rw[show aW φ A=0 from if_neg u,ahr]at E;have Q:(A.is==2)=false:=by simpa using u
  have D:=ih (i+1,I) ⟨ae3,E⟩ adv;clear ih E T y;obtain⟨S,O,Wv,⟨N,K⟩,⟨J,G⟩,cd',⟨q1,q2,q3,q4,q5,q6,q7⟩⟩:=A;obtain⟨r3,C,p⟩:=xL U P;simp only at Q D
  repeat' (first|exact wq|refine wz ?_|refine ag.eW hX kn Z Z Z Z Z Z Z Z Z o C (eJ Z Z p) ?_|(intro h;rw[h]))
  exact AK.again D ⟨.inl (dz (i:=i) ai),.inl Z,.inl Z,.inl Z,.inl Z,.inl Z,trivial⟩ ⟨Z,Z,trivial⟩ trivial aeT Z Z
 obtain rfl:i=12:=by omega
 have e1:decide (((12:Nat):Int)<12)=false:=by decide
 have h0:sW φ Ll.aI=I:=by
  have:sW φ []=0:=by unfold sW;rfl
  rw[List.drop_of_length_le ai,this]at E;omega
 rw[h0];clear ih T
 repeat' (first|exact wq|refine wz ?_)
def X5(m W U G u B)(c4:Δ)(p T S l b)(E:pQ l)(N:yB b)(J:b.bC<=3000):af 13 (.agg (di l) :: .agg (di (iV l b).1)::qc b::yY (iV l b).2::[.ip [.int .i64 m],.ip [.int .i64 W,.sl 2 (az U)],.ip [.int .i64 G,.int .i64 u,.int .i64 B,.str c4,.sl 7 (aa p),.sl 2 (az T),.sl 5 (aD S)]]) (.bool true):=by
 have q:=oP E N J;have Q:=(@ae1 (fH m (.mk W U) (.mk G u B c4 p T S)) 1 l b E J N (.inl Z)).2;rw[Int.one_mul]at Q;generalize iV l b=x at *;obtain⟨Ll,⟨code,done,j,P,K⟩⟩:=x;obtain⟨src,C,rH,bC,ops⟩:=b;simp only at q Q;have i:=E.h12;have f:=q.h12;obtain⟨A,_⟩:=vl Ll q m;obtain⟨z,_⟩:=vl l E m;have Y:=λh=>JN Ll q m (.mk W U) (.mk G u B c4 p T S) h;have V:=λh=>JN l E m (.mk W U) (.mk G u B c4 p T S) h;generalize sT m 0 0 Ll.aI=r1 at *;generalize sT m 0 0 l.aI=r2 at *;obtain⟨d,F⟩:=r1;obtain⟨a,M⟩:=r2;simp only at Y V A z;generalize sW (fH m (.mk W U) (.mk G u B c4 p T S)) Ll.aI=H at *;generalize sW (fH m (.mk W U) (.mk G u B c4 p T S)) l.aI=y at *;refine qn func13 call13 λβ hf=>?_;by_cases O:(if M>F then M else F)>1073741824
 ·have t:decide ((if M>F then M else F)>1073741824)=true:=ace O;clear Y V Q
  repeat' (first|exact wq|refine wz ?_|(intro h;rw[h]))
 have t:decide ((if M>F then M else F)>1073741824)=false:=acf O;by_cases I:P>1099511627776
 ·have r:(bif false then true else decide (P>1099511627776))=true:=ace I;clear Y V Q
  repeat' (first|exact wq|refine wz ?_|(intro h;rw[h]))
 have r:(bif false then true else decide (P>1099511627776))=false:=acf I;have D:F<=1073741824/\M<=1073741824:=by split at O<;>omega
 obtain⟨q3,y1⟩:=Y D.1;obtain⟨q4,y2⟩:=V D.2;have e4:decide ((H:Int)>=0):=ace ai;have o:decide (i64.wrap ((H:Int)-(y:Int))<=P):=by rw[gW ai ai];exact ace ai
 clear Y V Q
 repeat' (first|exact wq|refine wz ?_|(intro h;rw[h]))
 exact uQ hf Z Z (ahm CV.bool o)
def Kx(T)(Q:∀b∈T,yB b)(m w c):af 5 [.sl 5 (hD T),.int .i64 m,ct w,bz c] (.bool true):=by
 obtain⟨W,Y⟩:=w;obtain⟨G,u,B,c4,p,V,S⟩:=c;have P:=R5 (X5 m W Y G u B c4 p V S) T Q;have U:(O4 40 vz T).aI.length=12:=Vx 40 uF Q;generalize O4 40 vz T=Ll at *;refine qn func5 call5 λO hf=>?_;refine AK.seq ?_;refine AK.region mixed Z ?_
 repeat' (first|refine so ?_)
 refine AK.freeze 5 Z Z Z Z ?_;refine AK.freeze 6 Z Z Z Z ?_;refine AK.freeze 7 Z Z Z Z ?_
 repeat' (first|exact wq|refine wz ?_)
end Go.Proofs
