/- A part of the proof. -/
import Derived.Test.YtpnpbmbdkinajaaGreatDoorChk3G
set_option linter.all false
set_option maxHeartbeats 0
set_option maxRecDepth 100000
open Go.IntKind Go.Proofs.Tryz
namespace Go.Proofs
open Go.cE
attribute [local irreducible] AK ag aZ bS aM fZ jI iF gk bA bU gf b8 dH gV
def fm{a r}(h:r=br 5:=by first|(simp[dh,cL,aL,aQ,aaw,aay,dQ];done)|(simp[*,dh,cL,aL,aQ,aaw,aay,dQ];done)) (q:af 104 a (.eK [.agg [.any,.any],.int .i64 5]):=by
  refine qn func104 call104 λV hf=>?_
  exact dw):af 104 a (iD r):=by rw[h,dU bn];exact q
def kJ{a r l}(h:r=fO l:=by first|(simp[dh,cL,aL,aQ,aaw,aay,dQ];done)|(simp[*,dh,cL,aL,aQ,aaw,aay,dQ];done)) (q:af 104 a (.eK [.agg [.sl 2 (az l),.bool false],.int .i64 0]):=by
  refine qn func104 call104 λV hf=>?_
  exact dw):af 104 a (iD r):=by rw[h];exact q
def H6(P nN)(nS:Δ)(z)(x s)(hP:46<=P/\P<=58)(hf:bB P z=some x)(Q:um s)(hl:s.length<=9999999990)(ψ:aP z<=8589934593)
  (B:∀a∈z,∀s',um s'->s'.length<=s.length+1->af 55 [.sl 5 (aD (cw a)),.sl 2 (az s')] (yg (bU (cw a) (s',false)))) :
  af 104 [aV (.mk 2 nN P nS z),.sl 2 (az x),.sl 2 (az s)] (iD (dh P (b8 z) x s)):=by
 have WJ:P=46\/P=47\/P=48\/P=49\/P=50\/P=51\/P=52\/P=53\/P=54\/P=55\/P=56\/P=57\/P=58:=by omega
 clear hP;rcases WJ with rfl|rfl|rfl|rfl|rfl|rfl|rfl|rfl|rfl|rfl|rfl|rfl|rfl
 ·obtain⟨rfl,rfl⟩:=dO hf rfl;clear hf;rcases s with _|⟨⟨T,F⟩,_|⟨⟨U,b⟩,q⟩⟩
  exact fm;exact fm;have χ:=BA (az (.mk T F :: .mk U b::q)) 1 Bc;have M:=vP (q) [.mk 11 [.mk T F,.mk U b]];have y0:=dN 11 [.mk T F,.mk U b];exact kJ (l := .mk 11 [.mk T F,.mk U b]::q)
 ·obtain⟨rfl,rfl⟩:=dO hf rfl;clear hf;rcases s with _|⟨⟨T,F⟩,r⟩
  exact fm;by_cases N:T=11;subst N;obtain⟨⟨X,W⟩,⟨Y,S⟩,rfl,m,hy⟩:=dr (Q (.mk 11 F) cS) rfl;have I:=Be (.mk 11 [.mk X W,.mk Y S]::r) [11];have M:=vP (r) [.mk X W,.mk Y S];exact kJ (l := .mk X W :: .mk Y S::r);have I:=me (.mk T F::r) [11];exact fm
 ·obtain⟨rfl,rfl⟩:=dO hf rfl;clear hf;rcases s with _|⟨⟨T,F⟩,r⟩
  exact fm;by_cases N:T=11;subst N;obtain⟨⟨X,W⟩,⟨Y,S⟩,rfl,m,hy⟩:=dr (Q (.mk 11 F) cS) rfl;have I:=Be (.mk 11 [.mk X W,.mk Y S]::r) [11];have M:=vP (r) [.mk X W];exact kJ (l := .mk X W::r);have I:=me (.mk T F::r) [11];exact fm
 ·obtain⟨rfl,rfl⟩:=dO hf rfl;clear hf;rcases s with _|⟨⟨T,F⟩,r⟩
  exact fm;by_cases N:T=11;subst N;obtain⟨⟨X,W⟩,⟨Y,S⟩,rfl,m,hy⟩:=dr (Q (.mk 11 F) cS) rfl;have I:=Be (.mk 11 [.mk X W,.mk Y S]::r) [11];have M:=vP (r) [.mk Y S];exact kJ (l := .mk Y S::r);have I:=me (.mk T F::r) [11];exact fm
 ·obtain⟨x0,t,rfl,rfl,ht⟩:=AH hf rfl;clear hf;have ω:=ht.2;obtain⟨V,p⟩:=t;rcases s with _|⟨⟨T,F⟩,r⟩
  exact fm;have M:=vP (r) [.mk 12 [.mk T F,.mk V p]];have y0:=dN 12 [.mk T F,.mk V p];exact kJ (l := .mk 12 [.mk T F,.mk V p]::r)
 ·obtain⟨x0,t,rfl,rfl,ht⟩:=AH hf rfl;clear hf;have ω:=ht.2;obtain⟨V,p⟩:=t;rcases s with _|⟨⟨T,F⟩,r⟩
  exact fm;have M:=vP (r) [.mk 12 [.mk V p,.mk T F]];have y0:=dN 12 [.mk V p,.mk T F];exact kJ (l := .mk 12 [.mk V p,.mk T F]::r)
 ·obtain⟨K,H,G,y,E,C,D,S,rfl,rfl⟩:=CS hf rfl;clear hf;rcases s with _|⟨⟨T,F⟩,r⟩
  exact fm;by_cases N:T=12;subst N;simp only[aat]at hl;have zr:=aY r;have O:=(qS Q).2;obtain⟨⟨X,W⟩,⟨Y,qs⟩,rfl,m,hy⟩:=dr (Q (.mk 12 F) cS) rfl;have I:=Be (.mk 12 [.mk X W,.mk Y qs]::r) [12];have A:=B (.mk 3 K H G y) cS (.mk X W::r) (nr m O) ek;have J:=mu y (.mk X W::r,false) (nr m O);have u:=B (.mk 3 E C D S) cS (.mk Y qs::r) (nr hy O) ek;have j:=mu S (.mk Y qs::r,false) (nr hy O);rw[show dh 52 (b8 ([.mk 3 K H G y,.mk 3 E C D S])) ([]) (.mk 12 [.mk X W,.mk Y qs]::r)=cJ (bU y (.mk X W::r,false)) (bU S (.mk Y qs::r,false))from by simp[dh,cL,aL,aQ,aaw,aay,dQ,b8]];simp only[cw]at A;generalize bU y (.mk X W::r,false)=r1 at A J ⊢;obtain⟨⟨t1,i⟩,e1⟩:=r1;simp only[aat]at J;simp only[cw]at u;generalize bU S (.mk Y qs::r,false)=r2 at u j ⊢;obtain⟨⟨f,d⟩,e2⟩:=r2;simp only[aat]at j;have hm:=kf ((t1,i),e1) ((f,d),e2) J.1 u7;generalize cJ ((t1,i),e1) ((f,d),e2)=rm at hm ⊢;obtain⟨⟨tm,bm⟩,em⟩:=rm;exact qdw func104 call104;have I:=me (.mk T F::r) [12];exact fm
 ·obtain⟨rfl,rfl⟩:=dO hf rfl;clear hf;rcases s with _|⟨⟨T,F⟩,r⟩
  exact fm;have M:=vP (r) [.mk 9 [.mk T F]];have y0:=dN 9 [.mk T F];exact kJ (l := .mk 9 [.mk T F]::r)
 obtain⟨x0,t,rfl,rfl,ht⟩:=AH hf rfl;clear hf;have ω:=ht.2;obtain⟨V,p⟩:=t;have M:=vP (s) [.mk 9 [.mk V p]];have y0:=dN 9 [.mk V p];exact kJ (l := .mk 9 [.mk V p]::s)
 ·obtain⟨K,H,G,y,E,C,D,S,rfl,rfl⟩:=CS hf rfl;clear hf;rcases s with _|⟨⟨T,F⟩,r⟩
  exact fm;by_cases N:T=9;subst N;simp only[aat]at hl;have zr:=aY r;have O:=(qS Q).2;obtain⟨⟨X,W⟩,rfl,m⟩:=dD (Q (.mk 9 F) cS) rfl;have I:=Be (.mk 9 [.mk X W]::r) [9];have A:=B (.mk 3 K H G y) cS (r) O ek;have J:=mu y (r,false) O;have u:=B (.mk 3 E C D S) cS (.mk X W::r) (nr m O) ek;have j:=mu S (.mk X W::r,false) (nr m O);rw[show dh 55 (b8 ([.mk 3 K H G y,.mk 3 E C D S])) ([]) (.mk 9 [.mk X W]::r)=cJ (bU y (r,false)) (bU S (.mk X W::r,false))from by simp[dh,cL,aL,aQ,aaw,aay,dQ,b8]];simp only[cw]at A;generalize bU y (r,false)=r1 at A J ⊢;obtain⟨⟨t1,i⟩,e1⟩:=r1;simp only[aat]at J;simp only[cw]at u;generalize bU S (.mk X W::r,false)=r2 at u j ⊢;obtain⟨⟨f,d⟩,e2⟩:=r2;simp only[aat]at j;have hm:=kf ((t1,i),e1) ((f,d),e2) J.1 u7;generalize cJ ((t1,i),e1) ((f,d),e2)=rm at hm ⊢;obtain⟨⟨tm,bm⟩,em⟩:=rm;refine qn func104 call104 λβ hf=>?_;have BB:=fX r ai;exact dw;have I:=me (.mk T F::r) [9];exact fm
 obtain⟨x0,t,rfl,rfl,ht⟩:=AH hf rfl;clear hf;have ω:=ht.2;obtain⟨V,p⟩:=t;have M:=vP (s) [.mk 10 [.mk V p]];have y0:=dN 10 [.mk V p];exact kJ (l := .mk 10 [.mk V p]::s)
 ·obtain⟨rfl,rfl⟩:=dO hf rfl;clear hf;rcases s with _|⟨⟨T,F⟩,_|⟨⟨U,b⟩,q⟩⟩
  exact fm;have I:=me ([.mk T F]) [0,10];exact fm;by_cases hU:U=10;subst hU;obtain⟨⟨X,W⟩,rfl,m⟩:=dD (Q (.mk 10 b) cS) rfl;have I:=Be (.mk T F :: .mk 10 [.mk X W]::q) [0,10];have h1:=gC (.mk T F) (.mk X W) (by have:=(Q (.mk T F) cS).2;omega);cases g1:cx (.mk T F) (.mk X W);rw[g1]at h1;exact fm;rw[g1]at h1;have M:=SK (.mk 10 [.mk X W]::q);exact kJ (l := .mk 10 [.mk X W]::q);have I:=me (.mk T F :: .mk U b::q) [0,10];exact fm
 obtain⟨K,H,G,y,E,C,D,S,rfl,rfl⟩:=CS hf rfl;clear hf;rcases s with _|⟨⟨T,F⟩,r⟩
 exact fm;by_cases N:T=10;subst N;simp only[aat]at hl;have zr:=aY r;have O:=(qS Q).2;obtain⟨⟨X,W⟩,rfl,m⟩:=dD (Q (.mk 10 F) cS) rfl;have I:=Be (.mk 10 [.mk X W]::r) [10];have A:=B (.mk 3 K H G y) cS (.mk X W :: .mk 10 [.mk X W]::r) (nr m Q) ek;have J:=mu y (.mk X W :: .mk 10 [.mk X W]::r,false) (nr m Q);have u:=B (.mk 3 E C D S) cS (r) O ek;have j:=mu S (r,false) O;rw[show dh 58 (b8 ([.mk 3 K H G y,.mk 3 E C D S])) ([]) (.mk 10 [.mk X W]::r)=cJ (bU y (.mk X W :: .mk 10 [.mk X W]::r,false)) (bU S (r,false))from by simp[dh,cL,aL,aQ,aaw,aay,dQ,b8]];simp only[cw]at A;generalize bU y (.mk X W :: .mk 10 [.mk X W]::r,false)=r1 at A J ⊢;obtain⟨⟨t1,i⟩,e1⟩:=r1;simp only[aat]at J;simp only[cw]at u;generalize bU S (r,false)=r2 at u j ⊢;obtain⟨⟨f,d⟩,e2⟩:=r2;simp only[aat]at j;have hm:=kf ((t1,i),e1) ((f,d),e2) J.1 u7;generalize cJ ((t1,i),e1) ((f,d),e2)=rm at hm ⊢;obtain⟨⟨tm,bm⟩,em⟩:=rm;refine qn func104 call104 λβ hf=>?_;have Mp:=fX r ai;exact dw;have I:=me (.mk T F::r) [10];exact fm
end Go.Proofs
