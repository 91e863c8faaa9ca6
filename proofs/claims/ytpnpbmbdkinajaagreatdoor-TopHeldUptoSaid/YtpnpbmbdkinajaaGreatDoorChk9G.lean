/- A part of the proof. -/
import Derived.Test.YtpnpbmbdkinajaaGreatDoorChk3G
set_option linter.all false
set_option maxHeartbeats 0
set_option maxRecDepth 100000
open Go.IntKind Go.Proofs.Tryz
namespace Go.Proofs
open Go.cE
attribute [local irreducible] AK ag aZ bS aM fZ jI iF gk bA bU gf b8 dH gV
def lQ{a r}(h:r=br 5:=by first|(simp[dY,cL,aL,aQ,aaw,aay,dQ];done)|(simp[*,dY,cL,aL,aQ,aaw,aay,dQ];done)) (q:af 106 a (.eK [.agg [.any,.any],.int .i64 5]):=by
  refine qn func106 call106 λV hf=>?_
  exact dw):af 106 a (iD r):=by rw[h,dU bn];exact q
def TJ{a r l}(h:r=fO l:=by first|(simp[dY,cL,aL,aQ,aaw,aay,dQ];done)|(simp[*,dY,cL,aL,aQ,aaw,aay,dQ];done)) (q:af 106 a (.eK [.agg [.sl 2 (az l),.bool false],.int .i64 0]):=by
  refine qn func106 call106 λV hf=>?_
  exact dw):af 106 a (iD r):=by rw[h];exact q
def H7(P nN)(nS:Δ)(y)(x s)(hP:64<=P/\P<=68)(hf:bB P y=some x)(E:um s)(hl:s.length<=9999999990)(ω:aP y<=8589934593)
  (B:∀a∈y,∀j,um j->j.length<=s.length+1->af 55 [.sl 5 (aD (cw a)),.sl 2 (az j)] (yg (bU (cw a) (j,false)))) :
  af 106 [aV (.mk 2 nN P nS y),.sl 2 (az x),.sl 2 (az s)] (iD (dY P y (b8 y) x s)):=by
 have WJ:P=64\/P=65\/P=66\/P=67\/P=68:=by omega
 clear hP;rcases WJ with rfl|rfl|rfl|rfl|rfl
 ·obtain⟨W,I,M,F,n2,p2,S2,N,rfl,rfl⟩:=CS hf rfl;clear hf;rcases s with _|⟨⟨T,z⟩,r⟩
  have K:=me ([]) [2];exact lQ;by_cases hT:T=2;subst hT;simp only[aat]at hl;have zr:=aY r;have H:=(qS E).2;have K:=Be (.mk 2 z::r) [2];have G:=B (.mk 3 W I M F) cS (r) H ek;have J:=mu F (r,false) H;have w2:=B (.mk 3 n2 p2 S2 N) cS (r) H ek;have o2:=mu N (r,false) H;rw[show dY 64 ([.mk 3 W I M F,.mk 3 n2 p2 S2 N]) (b8 ([.mk 3 W I M F,.mk 3 n2 p2 S2 N])) ([]) (.mk 2 z::r)=cJ (bU F (r,false)) (bU N (r,false))from by simp[dY,cL,aL,aQ,aaw,aay,dQ,b8]];simp only[cw]at G;generalize bU F (r,false)=r1 at G J ⊢;obtain⟨⟨t1,C⟩,e1⟩:=r1;simp only[aat]at J;simp only[cw]at w2;generalize bU N (r,false)=r2 at w2 o2 ⊢;obtain⟨⟨t2,b2⟩,e2⟩:=r2;simp only[aat]at o2;have D:=kf ((t1,C),e1) ((t2,b2),e2) J.1 u7;generalize cJ ((t1,C),e1) ((t2,b2),e2)=rm at D ⊢;obtain⟨⟨tm,bm⟩,em⟩:=rm;refine qn func106 call106 λβ hf=>?_;have BB:=fX r ai;exact dw;have K:=me (.mk T z::r) [2];exact lQ
 ·obtain⟨W,I,M,F,rfl,rfl⟩:=MN hf rfl;clear hf;rcases s with _|⟨⟨T,z⟩,r⟩
  have K:=me ([]) [2];exact lQ;by_cases hT:T=2;subst hT;simp only[aat]at hl;have zr:=aY r;have H:=(qS E).2;have K:=Be (.mk 2 z::r) [2];rw[show dY 65 ([.mk 3 W I M F]) (b8 ([.mk 3 W I M F])) ([]) (.mk 2 z::r)=(if(cJ (bU F (r,false)) (fO (.mk 2 z::r))).2≠0 then br (cJ (bU F (r,false)) (fO (.mk 2 z::r))).2 else fO r)from by simp[dY,b8,cL,aL,aQ,aaw,aay,dQ]];have G:=B (.mk 3 W I M F) cS (r) H aeD;have J:=mu F (r,false) H;simp only[cw]at G;generalize bU F (r,false)=r1 at G J ⊢;obtain⟨⟨t1,C⟩,e1⟩:=r1;simp only[aat,aav]at J;change aZ _ _ _ _ (iD (if(cJ ((t1,C),e1) ((.mk 2 z::r,false),0)).2≠0 then br (cJ ((t1,C),e1) ((.mk 2 z::r,false),0)).2 else _));have D:=kf ((t1,C),e1) ((.mk 2 z::r,false),0) J.1 u7;generalize cJ ((t1,C),e1) ((.mk 2 z::r,false),0)=rm at D ⊢;obtain⟨⟨tm,bm⟩,em⟩:=rm;simp only;by_cases S:em≠0;rw[if_pos S,dU S];have en:(em != 0):=(by simpa using S);refine qn func106 call106 λβ hf=>?_;have Mp:=fX r ai;exact dw;obtain rfl:em=0:=(by simpa using S);rw[if_neg bn];have hp:=SK (r);rw[fN];refine qn func106 call106 λβ hf=>?_;have WM:=fX r ai;exact dw;have K:=me (.mk T z::r) [2];exact lQ
 ·obtain⟨i,f,W,I,M,F,t,u,rfl,rfl,ht,hu⟩:=KP hf rfl;clear hf;have ψ:=ht.2;obtain⟨V,p⟩:=t;have χ:=hu.2;obtain⟨Q,O⟩:=u;have A:=yO F (by simp only[aP,bE]at ω;omega);have d:=aY s;cases b:dH F;rotate_left;rw[b]at A;rw[show dY 66 ([i,f,.mk 3 W I M F]) (b8 ([i,f,.mk 3 W I M F])) ([.mk V p,.mk Q O]) s=br 5 from by simp[dY,cw,b],dU bn];exact qdw func106 call106;rw[b]at A;have m:um [Ty.mk V p]:=nr ht Vu;rw[show dY 66 ([i,f,.mk 3 W I M F]) (b8 ([i,f,.mk 3 W I M F])) ([.mk V p,.mk Q O]) s=(if(cJ (bU F ([.mk V p],false)) (fO [.mk Q O])).2≠0 then br (cJ (bU F ([.mk V p],false)) (fO [.mk Q O])).2 else fO (.mk 14 ([.mk V p,.mk Q O])::s))from by simp[dY,Fk,cw,b,cL,aL,aQ,aaw,aay,dQ]];have G:=B (.mk 3 W I M F) cS ([.mk V p]) m aeD;have J:=mu F ([.mk V p],false) m;simp only[cw]at G;generalize bU F ([.mk V p],false)=r1 at G J ⊢;obtain⟨⟨t1,C⟩,e1⟩:=r1;simp only[aat,aav]at J;change aZ _ _ _ _ (iD (if(cJ ((t1,C),e1) (([.mk Q O],false),0)).2≠0 then br (cJ ((t1,C),e1) (([.mk Q O],false),0)).2 else _));have D:=kf ((t1,C),e1) (([.mk Q O],false),0) J.1 u7;generalize cJ ((t1,C),e1) (([.mk Q O],false),0)=rm at D ⊢;obtain⟨⟨tm,bm⟩,em⟩:=rm;simp only;by_cases S:em≠0;rw[if_pos S,dU S];have en:(em != 0):=(by simpa using S);exact qdw func106 call106;obtain rfl:em=0:=by simpa using S
  rw[if_neg bn];have hp:=vP (s) [.mk 14 [.mk V p,.mk Q O]];rw[fN];refine qn func106 call106 λβ hf=>?_;have υ:=dN 14 [.mk V p,.mk Q O];exact dw
 ·obtain⟨rfl,rfl⟩:=dO hf rfl;clear hf;rcases s with _|⟨⟨T,z⟩,_|⟨⟨U,vs⟩,q⟩⟩
  have K:=me ([]) [0,14];exact lQ;have K:=me ([.mk T z]) [0,14];exact lQ;by_cases hU:U=14;subst hU;obtain⟨⟨X,d⟩,⟨Y,N⟩,rfl,hx,hy⟩:=dr (E (.mk 14 vs) cS) rfl;have K:=Be (.mk T z :: .mk 14 [.mk X d,.mk Y N]::q) [0,14];have h1:=gC (.mk T z) (.mk X d) (by have:=(E (.mk T z) cS).2;omega);cases g1:cx (.mk T z) (.mk X d);rw[g1]at h1;exact lQ;rw[g1]at h1;have hp:=vP (q) [.mk Y N];exact TJ (l := .mk Y N::q);have K:=me (.mk T z :: .mk U vs::q) [0,14];exact lQ
 obtain⟨W,I,M,F,rfl,rfl⟩:=MN hf rfl;clear hf;rcases s with _|⟨⟨T,z⟩,r⟩
 exact lQ;have K:=BA (az (.mk T z::r)) 0 Bc;have H:=(qS E).2;have zr:=aY r;simp only[aat]at hl;rw[show dY 68 ([.mk 3 W I M F]) (b8 ([.mk 3 W I M F])) ([]) (.mk T z::r)=(if(bU F (r,false)).2≠0 then br (bU F (r,false)).2 else if(bU F (r,false)).1.2=true then br 1 else fO (.mk T z::(bU F (r,false)).1.1))from by simp[dY,b8,cL,aL,aQ,aaw,aay,dQ]];have G:=B (.mk 3 W I M F) cS (r) H aeD;have J:=mu F (r,false) H;simp only[cw]at G;generalize bU F (r,false)=r1 at G J ⊢;obtain⟨⟨t1,C⟩,e1⟩:=r1;simp only[aat,aav]at J;simp only;by_cases S:e1≠0
 ·rw[if_pos S,dU S];have en:(e1 != 0):=by simpa using S
  refine qn func106 call106 λβ hf=>?_;have τ:=fX r ai;exact dw
 obtain rfl:e1=0:=by simpa using S
 rw[if_neg bn];cases C;rw[if_neg bn];have hp:=vP (t1) [.mk T z];rw[fN];refine qn func106 call106 λβ hf=>?_;have ρ:=fX r ai;exact dw;rw[if_pos Z,dU bn];refine qn func106 call106 λβ hf=>?_;have π:=fX r ai;exact dw
end Go.Proofs
