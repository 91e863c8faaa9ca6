/- A part of the proof. -/
import Derived.Test.YtpnpbmbdkinajaaGreatDoorChk3G
set_option linter.all false
set_option maxHeartbeats 0
set_option maxRecDepth 100000
open Go.IntKind Go.Proofs.Tryz
namespace Go.Proofs
open Go.cE
attribute [local irreducible] AK ag aZ bS aM fZ jI iF gk bA bU gf b8 dH gV
def gv{a r}(h:r=br 5:=by first|(simp[kj,cL,aL,aQ,aaw,aay,dQ];done)|(simp[*,kj,cL,aL,aQ,aaw,aay,dQ];done)) (q:af 108 a (.eK [.agg [.any,.any],.int .i64 5]):=by
  refine qn func108 call108 λV hf=>?_
  exact dw):af 108 a (iD r):=by rw[h,dU bn];exact q
def qF{a r l}(h:r=fO l:=by first|(simp[kj,cL,aL,aQ,aaw,aay,dQ];done)|(simp[*,kj,cL,aL,aQ,aaw,aay,dQ];done)) (q:af 108 a (.eK [.agg [.sl 2 (az l),.bool false],.int .i64 0]):=by
  refine qn func108 call108 λV hf=>?_
  exact dw):af 108 a (iD r):=by rw[h];exact q
def Qf(P A D s)(K:73<=P/\P<=83)(hf:bB P A=some D)(O:um s)(E:s.length<=9999999990):af 108 [.int .i64 P,.sl 2 (az D),.sl 2 (az s)] (iD (kj P D s)):=by
 have J:P=73\/P=74\/P=75\/P=76\/P=77\/P=78\/P=79\/P=80\/P=81\/P=82\/P=83:=by omega
 clear K;rcases J with rfl|rfl|rfl|rfl|rfl|rfl|rfl|rfl|rfl|rfl|rfl
 ·obtain⟨rfl,rfl⟩:=dO hf rfl;clear hf;rcases s with _|⟨⟨T,us⟩,_|⟨⟨U,F⟩,q⟩⟩
  exact gv;exact gv;have z:=gC (.mk T us) (.mk U F) FC;have B:=nv (.mk T us) FC;cases y:cx (.mk T us) (.mk U F);rw[y]at z;exact gv;cases M:fZ (.mk T us);rw[y]at z;rw[M]at B;exact gv;rw[y]at z;rw[M]at B;have H:=BA (az (.mk T us :: .mk U F::q)) 1 Bc;have W:=vP (q) [.mk 3 []];have S:=cY 3;exact qF (l := .mk 3 []::q)
 ·obtain⟨rfl,rfl⟩:=dO hf rfl;clear hf;rcases s with _|⟨⟨T,us⟩,r⟩
  have I:=me ([]) [3];exact gv;by_cases Y:T=3;subst Y;have I:=Be (.mk 3 us::r) [3];have W:=vP (r) [.mk 2 []];have S:=cY 2;exact qF (l := .mk 2 []::r);have I:=me (.mk T us::r) [3];exact gv
 ·obtain⟨rfl,rfl⟩:=dO hf rfl;clear hf;rcases s with _|⟨⟨T,us⟩,r⟩
  have I:=me ([]) [3];exact gv;by_cases Y:T=3;subst Y;have I:=Be (.mk 3 us::r) [3];have W:=vP (r) [.mk 2 []];have S:=cY 2;exact qF (l := .mk 2 []::r);have I:=me (.mk T us::r) [3];exact gv
 ·obtain⟨rfl,rfl⟩:=dO hf rfl;clear hf;rcases s with _|⟨⟨T,us⟩,r⟩
  have I:=me ([]) [3];exact gv;by_cases Y:T=3;subst Y;have I:=Be (.mk 3 us::r) [3];have W:=vP (r) [.mk 2 []];have S:=cY 2;exact qF (l := .mk 2 []::r);have I:=me (.mk T us::r) [3];exact gv
 ·obtain⟨rfl,rfl⟩:=dO hf rfl;clear hf;rcases s with _|⟨⟨T,us⟩,r⟩
  have I:=me ([]) [2];exact gv;by_cases Y:T=2;subst Y;have I:=Be (.mk 2 us::r) [2];have W:=SK (.mk 2 us::r);exact qF (l := .mk 2 us::r);have I:=me (.mk T us::r) [2];exact gv
 ·obtain⟨rfl,rfl⟩:=dO hf rfl;clear hf;rcases s with _|⟨⟨T,us⟩,_|⟨⟨U,F⟩,q⟩⟩
  have I:=me ([]) [2,2];exact gv;have I:=me ([.mk T us]) [2,2];exact gv;by_cases Y:T=2/\U=2;obtain⟨rfl,rfl⟩:=Y;have I:=Be (.mk 2 us :: .mk 2 F::q) [2,2];have W:=SK (.mk 2 F::q);exact qF (l := .mk 2 F::q);have Q:T=2->¬U=2:=λa b=>Y ⟨a,b⟩;have I:=me (.mk T us :: .mk U F::q) [2,2];exact gv
 ·obtain⟨rfl,rfl⟩:=dO hf rfl;clear hf;rcases s with _|⟨⟨T,us⟩,_|⟨⟨U,F⟩,q⟩⟩
  have I:=me ([]) [2,2];exact gv;have I:=me ([.mk T us]) [2,2];exact gv;by_cases Y:T=2/\U=2;obtain⟨rfl,rfl⟩:=Y;have I:=Be (.mk 2 us :: .mk 2 F::q) [2,2];have W:=SK (.mk 2 F::q);exact qF (l := .mk 2 F::q);have Q:T=2->¬U=2:=λa b=>Y ⟨a,b⟩;have I:=me (.mk T us :: .mk U F::q) [2,2];exact gv
 ·obtain⟨rfl,rfl⟩:=dO hf rfl;clear hf;rcases s with _|⟨⟨T,us⟩,_|⟨⟨U,F⟩,q⟩⟩
  have I:=me ([]) [6,6];exact gv;have I:=me ([.mk T us]) [6,6];exact gv;by_cases Y:T=6/\U=6;obtain⟨rfl,rfl⟩:=Y;have I:=Be (.mk 6 us :: .mk 6 F::q) [6,6];have W:=SK (.mk 6 F::q);exact qF (l := .mk 6 F::q);have Q:T=6->¬U=6:=λa b=>Y ⟨a,b⟩;have I:=me (.mk T us :: .mk U F::q) [6,6];exact gv
 ·obtain⟨rfl,rfl⟩:=dO hf rfl;clear hf;rcases s with _|⟨⟨T,us⟩,r⟩
  exact gv;have B:=oZ (.mk T us) FC;have N:=BA (az (.mk T us::r)) 0 Bc;cases M:iF (.mk T us);rw[M]at B;exact gv;rw[M]at B;have W:=vP (r) [.mk 6 []];have S:=cY 6;exact qF (l := .mk 6 []::r)
 ·obtain⟨x,t,rfl,rfl,C⟩:=AH hf rfl;clear hf;have G:=C.2;obtain⟨V,p⟩:=t;have B:=oZ (.mk V p) ai;rcases s with _|⟨⟨T,us⟩,r⟩
  have I:=me ([]) [6];exact gv;by_cases Y:T=6;subst Y;have I:=Be (.mk 6 us::r) [6];cases M:iF (.mk V p);rw[M]at B;exact gv;rw[M]at B;have W:=vP (r) [.mk 9 [.mk V p]];have S:=dN 9 [.mk V p];exact qF (l := .mk 9 [.mk V p]::r);have I:=me (.mk T us::r) [6];exact gv
 obtain⟨rfl,rfl⟩:=dO hf rfl;clear hf;rcases s with _|⟨⟨T,us⟩,r⟩
 exact gv;have B:=oZ (.mk T us) FC;have N:=BA (az (.mk T us::r)) 0 Bc;cases M:iF (.mk T us);rw[M]at B;exact gv;rw[M]at B;rw[show kj 83 ([]) (.mk T us::r)=(([],true),0)from by simp[kj,cL,aL,aQ,aaw,aay,dQ,M]];rw[Pd];exact qdw func108 call108
def iP{a r}(h:r=br 5:=by first|(simp[iL,cL,aL,aQ,aaw,aay,dQ];done)|(simp[*,iL,cL,aL,aQ,aaw,aay,dQ];done)) (q:af 109 a (.eK [.agg [.any,.any],.int .i64 5]):=by
  refine qn func109 call109 λV hf=>?_
  exact dw):af 109 a (iD r):=by rw[h,dU bn];exact q
def pz{a r l}(h:r=fO l:=by first|(simp[iL,cL,aL,aQ,aaw,aay,dQ];done)|(simp[*,iL,cL,aL,aQ,aaw,aay,dQ];done)) (q:af 109 a (.eK [.agg [.sl 2 (az l),.bool false],.int .i64 0]):=by
  refine qn func109 call109 λV hf=>?_
  exact dw):af 109 a (iD r):=by rw[h];exact q
def MV(P j z s)(A:84<=P/\P<=92)(hf:bB P j=some z)(N:um s)(hl:s.length<=9999999990):af 109 [.int .i64 P,.sl 2 (az z),.sl 2 (az s)] (iD (iL P z s)):=by
 have u:P=84\/P=85\/P=86\/P=87\/P=88\/P=89\/P=90\/P=91\/P=92:=by omega
 clear A;rcases u with rfl|rfl|rfl|rfl|rfl|rfl|rfl|rfl|rfl
 ·obtain⟨rfl,rfl⟩:=dO hf rfl;clear hf;rcases s with _|⟨⟨T,us⟩,_|⟨⟨U,y⟩,q⟩⟩
  have I:=me ([]) [0,4];exact iP;have I:=me ([.mk T us]) [0,4];exact iP;have i:=nv (.mk T us) ZK;by_cases K:U=4;subst K;have I:=Be (.mk T us :: .mk 4 y::q) [0,4];cases H:fZ (.mk T us);rw[H]at i;exact iP;rw[H]at i;have M:=vP (q) [.mk 9 [.mk 15 [.mk T us]]];have S:=dN 15 [.mk T us];have D:=dN 9 [.mk 15 [.mk T us]];exact pz (l := .mk 9 [.mk 15 [.mk T us]]::q);have I:=me (.mk T us :: .mk U y::q) [0,4];exact iP
 ·obtain⟨rfl,rfl⟩:=dO hf rfl;clear hf;rcases s with _|⟨⟨T,us⟩,r⟩
  have I:=me ([]) [15];exact iP;by_cases Q:T=15;subst Q;obtain⟨⟨X,F⟩,rfl,hx⟩:=dD (N _ (ajW ..)) rfl;have I:=Be (.mk 15 [.mk X F]::r) [15];have M:=vP (.mk 15 [.mk X F]::r) [.mk 11 [.mk 7 [],.mk 11 [.mk X F,.mk 4 []]]];have S:=cY 7;have D:=cY 4;have y2:=dN 11 [.mk X F,.mk 4 []];have y3:=dN 11 [.mk 7 [],.mk 11 [.mk X F,.mk 4 []]];exact pz (l := .mk 11 [.mk 7 [],.mk 11 [.mk X F,.mk 4 []]] :: .mk 15 [.mk X F]::r);have I:=me (.mk T us::r) [15];exact iP
 ·obtain⟨rfl,rfl⟩:=dO hf rfl;clear hf;rcases s with _|⟨⟨T,us⟩,_|⟨⟨U,y⟩,q⟩⟩
  have I:=me ([]) [15,11];exact iP;have I:=me ([.mk T us]) [15,11];exact iP;by_cases Q:T=15/\U=11;obtain⟨rfl,rfl⟩:=Q;obtain⟨⟨X,F⟩,⟨Y,J⟩,rfl,hx,hy⟩:=dr (N (.mk 11 y) cS) rfl;have I:=Be (.mk 15 us :: .mk 11 [.mk X F,.mk Y J]::q) [15,11];by_cases hX:X=4;subst hX;by_cases C:Y=4;subst C;have M:=vP (q) [.mk 9 [.mk 11 [.mk 15 us,.mk 15 us]]];have S:=dN 11 [.mk 15 us,.mk 15 us];have D:=dN 9 [.mk 11 [.mk 15 us,.mk 15 us]];exact pz (l := .mk 9 [.mk 11 [.mk 15 us,.mk 15 us]]::q);have B:(Y==4)=false:=(by simpa using C);exact iP;have B:(X==4)=false:=(by simpa using hX);exact iP;have G:T=15->¬U=11:=λa b=>Q ⟨a,b⟩;have I:=me (.mk T us :: .mk U y::q) [15,11];have O:¬(T=15/\U=11/\cL (y.getD 0 kg)=4/\cL (y.getD 1 kg)=4):=λh=>Q ⟨h.1,h.2.1⟩;rw[show iL 86 ([]) (.mk T us :: .mk U y::q)=br 5 from by unfold iL;rw[if_neg bn,if_neg bn];dsimp only;rw[if_neg bn,if_neg bn,if_pos rfl];exact if_neg O,dU bn];exact qdw func109 call109
 ·obtain⟨rfl,rfl⟩:=dO hf rfl;clear hf;rcases s with _|⟨⟨T,us⟩,r⟩
  have I:=me ([]) [11];exact iP;by_cases Q:T=11;subst Q;obtain⟨⟨X,F⟩,⟨Y,J⟩,rfl,hx,hy⟩:=dr (N (.mk 11 us) cS) rfl;have I:=Be (.mk 11 [.mk X F,.mk Y J]::r) [11];have Hp:=hx.2;have x:=gC (.mk X F) (.mk Y J) ai;by_cases hX:X=15;subst hX;cases m:cx (.mk 15 F) (.mk Y J);rw[m]at x;exact iP;rw[m]at x;have M:=vP (r) [.mk 9 [.mk 15 F]];have S:=dN 9 [.mk 15 F];exact pz (l := .mk 9 [.mk 15 F]::r);have B:(X==15)=false:=(by simpa using hX);exact iP;have I:=me (.mk T us::r) [11];exact iP
 ·obtain⟨x0,t,rfl,rfl,f⟩:=AH hf rfl;clear hf;have d:=f.2;obtain⟨V,p⟩:=t;rcases s with _|⟨⟨T,us⟩,_|⟨⟨U,y⟩,_|⟨⟨W,E⟩,q⟩⟩⟩
  have I:=me ([]) [0,5,7];exact iP;have I:=me ([.mk T us]) [0,5,7];exact iP;have I:=me ([.mk T us,.mk U y]) [0,5,7];exact iP;have x:=gC (.mk T us) (.mk V p) ZK;have i:=sB (.mk T us) ZK;by_cases K:U=5/\W=7;obtain⟨rfl,rfl⟩:=K;have I:=Be (.mk T us :: .mk 5 y :: .mk 7 E::q) [0,5,7];cases m:cx (.mk T us) (.mk V p);rw[m]at x;exact iP;cases H:gk (.mk T us);rw[m]at x;rw[H]at i;exact iP;rw[m]at x;rw[H]at i;have M:=vP (q) [.mk 8 []];have S:=cY 8;exact pz (l := .mk 8 []::q);have G:U=5->¬W=7:=λa b=>K ⟨a,b⟩;have I:=me (.mk T us :: .mk U y :: .mk W E::q) [0,5,7];have O:¬(U=5/\W=7/\cx (.mk T us) (.mk V p)/\gk (.mk T us)):=λh=>K ⟨h.1,h.2.1⟩;rw[show iL 88 ([.mk V p]) (.mk T us :: .mk U y :: .mk W E::q)=br 5 from by unfold iL;rw[if_neg bn,if_neg bn];dsimp only;rw[if_neg bn,if_neg bn,if_neg bn,if_neg bn,if_pos rfl];exact if_neg O,dU bn];exact qdw func109 call109
 obtain⟨rfl,rfl⟩:=dO hf rfl;clear hf;have M:=vP (s) [.mk 7 []];have S:=cY 7;exact pz (l := .mk 7 []::s);obtain⟨rfl,rfl⟩:=dO hf rfl;clear hf;have M:=vP (s) [.mk 7 []];have S:=cY 7;exact pz (l := .mk 7 []::s);obtain⟨rfl,rfl⟩:=dO hf rfl;clear hf;have M:=vP (s) [.mk 5 []];have S:=cY 5;exact pz (l := .mk 5 []::s);obtain⟨rfl,rfl⟩:=dO hf rfl;clear hf;have M:=vP (s) [.mk 5 []];have S:=cY 5;exact pz (l := .mk 5 []::s)
end Go.Proofs
