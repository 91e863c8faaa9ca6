/- A part of the proof. -/
import Derived.Test.YtpnpbmbdkinajaaGreatDoorBitsG
import Derived.Test.YtpnpbmbdkinajaaGreatDoorChk3G
import Derived.Test.YtpnpbmbdkinajaaGreatDoorVal3G
set_option linter.all false
set_option maxHeartbeats 0
set_option maxRecDepth 100000
open Go.IntKind Go.Proofs.Tryz
namespace Go.Proofs
open Go.cE
attribute [local irreducible] AK ag aZ bS aM fZ jI iF gk bA bU gf b8 dH gV
def iM{a:Ψ}{r:CR}(h:r=br 5:=by first|(simp[eU,cL,aL,aQ,aaw,aay,dQ];done)|(simp[*,eU,cL,aL,aQ,aaw,aay,dQ];done)) (q:af 107 a (.eK [.agg [.any,.any],.int .i64 5]):=by
  refine qn func107 call107 λV hf=>?_
  exact dw):af 107 a (iD r):=by rw[h,dU bn];exact q
def BD{a:Ψ}{r:CR}{l:Γ}(h:r=fO l:=by first|(simp[eU,cL,aL,aQ,aaw,aay,dQ];done)|(simp[*,eU,cL,aL,aQ,aaw,aay,dQ];done)) (q:af 107 a (.eK [.agg [.sl 2 (az l),.bool false],.int .i64 0]):=by
  refine qn func107 call107 λV hf=>?_
  exact dw):af 107 a (iD r):=by rw[h];exact q
def Hj(P:Int)(s:Γ)(G:P=69\/P=70\/P=71\/P=72\/93<=P)(E:s.length<=9999999990):af 107 [.int .i64 P,.sl 2 (az s)] (iD (eU P s)):=by
 by_cases V:P=93
 ·subst V;rcases s with _|⟨⟨T,F⟩,r⟩
  have I:=me ([]) [3];exact iM;by_cases W:T=3;subst W;have I:=Be (.mk 3 F::r) [3];have M:=vP (r) [.mk 4 []];have H:=cY 4;exact BD (l := .mk 4 []::r);have I:=me (.mk T F::r) [3];exact iM
 by_cases S:P=94
 ·subst S;rcases s with _|⟨⟨T,F⟩,r⟩
  have I:=me ([]) [3];exact iM;by_cases W:T=3;subst W;have I:=Be (.mk 3 F::r) [3];have M:=vP (r) [.mk 9 [.mk 4 []]];have H:=cY 4;have y1:=dN 9 [.mk 4 []];exact BD (l := .mk 9 [.mk 4 []]::r);have I:=me (.mk T F::r) [3];exact iM
 by_cases Q:P=95
 ·subst Q;rcases s with _|⟨⟨T,F⟩,r⟩
  have I:=me ([]) [4];exact iM;by_cases W:T=4;subst W;have I:=Be (.mk 4 F::r) [4];have M:=vP (r) [.mk 3 []];have H:=cY 3;exact BD (l := .mk 3 []::r);have I:=me (.mk T F::r) [4];exact iM
 by_cases O:93<=P
 ·rw[show eU P s=br 5 from by unfold eU;rw[if_neg V,if_neg S,if_neg Q,if_pos O]];rw[dU bn];have A:(P==93)=false:=by simpa using V
  have N:(P==94)=false:=by simpa using S
  have e3:(P==95)=false:=by simpa using Q
  have e4:decide (P>=93):=ace O;exact qdw func107 call107
 have Y:P=69\/P=70\/P=71\/P=72:=by omega
 clear G V S Q O;rcases s with _|⟨⟨T,F⟩,_|⟨⟨U,z⟩,q⟩⟩
 ·rcases Y with rfl|rfl|rfl|rfl
  exact iM;exact iM;exact iM;exact iM
 ·rcases Y with rfl|rfl|rfl|rfl
  exact iM;exact iM;exact iM;exact iM
 have D:=SG P T U Y
 have p:∀t,nU P T U=t->eU P (.mk T F :: .mk U z::q)=(if t=0 then br 5 else if P=70/\t=5 then fO (.mk 9 [.mk 5 []]::q)else if P≠72 then fO (.mk t []::q)
   else fO (.mk 9 [.mk 11 [.mk (if T=5/\U=5 then 4 else t) [],.mk (if T=5 then 5 else 4) []]]::q)):=by
  rintro t rfl
  conv=>lhs;unfold eU
  rw[if_neg ai,if_neg ai,if_neg ai,if_neg ai];rfl
 generalize nU P T U=t at D p;rw[p t rfl];clear p;simp only[aat]at E;by_cases C:t=0
 ·subst C;rw[if_pos Z,dU bn];rcases Y with rfl|rfl|rfl|rfl
  all_goals
   exact qdw func107 call107
 rw[if_neg C];have A:(t==0)=false:=by simpa using C
 rcases Y with rfl|rfl|rfl|rfl
 rw[if_neg ai,if_pos bn];have M:=vP (q) [.mk t []];rw[fN];refine qn func107 call107 λβ hf=>?_;have BB:=cY t;exact dw
 ·by_cases K:t=5;subst K;rw[if_pos ⟨Z,Z⟩];have M:=vP (q) [.mk 9 [.mk 5 []]];rw[fN];refine qn func107 call107 λβ hf=>?_;have Mp:=cY 5;have WM:=dN 9 [.mk 5 []];exact dw;have N:(t==5)=false:=by simpa using K
  rw[if_neg (λh=>K h.2),if_pos bn];have M:=vP (q) [.mk t []];rw[fN];refine qn func107 call107 λβ hf=>?_;have B:=cY t;exact dw
 rw[if_neg ai,if_pos bn];have M:=vP (q) [.mk t []];rw[fN];refine qn func107 call107 λβ hf=>?_;have u:=cY t;exact dw;rw[if_neg ai,if_neg bn];by_cases W:T=5
 ·subst W;by_cases J:U=5;subst J;rw[if_pos ⟨Z,Z⟩,if_pos rfl];have M:=vP (q) [.mk 9 [.mk 11 [.mk 4 [],.mk 5 []]]];rw[fN];refine qn func107 call107 λβ hf=>?_;have y:=cY 4;have x:=cY 5;have o:=dN 11 [.mk 4 [],.mk 5 []];have m:=dN 9 [.mk 11 [.mk 4 [],.mk 5 []]];exact dw;have N:(U==5)=false:=by simpa using J
  rw[if_neg (λh=>J h.2),if_pos rfl];have M:=vP (q) [.mk 9 [.mk 11 [.mk t [],.mk 5 []]]];rw[fN];refine qn func107 call107 λβ hf=>?_;have j:=cY 4;have i:=cY 5;have f:=cY t;have d:=dN 11 [.mk t [],.mk 5 []];have b:=dN 9 [.mk 11 [.mk t [],.mk 5 []]];exact dw
 have N:(T==5)=false:=by simpa using W
 rw[if_neg (λh=>W h.1),if_neg W];have M:=vP (q) [.mk 9 [.mk 11 [.mk t [],.mk 4 []]]];rw[fN];refine qn func107 call107 λβ hf=>?_;have a:=cY 4;have ω:=cY t;have ψ:=dN 11 [.mk t [],.mk 4 []];have χ:=dN 9 [.mk 11 [.mk t [],.mk 4 []]];exact dw
def jK{a r}(h:r=br 5:=by first|(simp[jc,cL,aL,aQ,aaw,aay,dQ];done)|(simp[*,jc,cL,aL,aQ,aaw,aay,dQ];done)) (q:af 105 a (.eK [.agg [.any,.any],.int .i64 5]):=by
  refine qn func105 call105 λV hf=>?_
  exact dw):af 105 a (iD r):=by rw[h,dU bn];exact q
def wQ{a r l}(h:r=fO l:=by first|(simp[jc,cL,aL,aQ,aaw,aay,dQ];done)|(simp[*,jc,cL,aL,aQ,aaw,aay,dQ];done)) (q:af 105 a (.eK [.agg [.sl 2 (az l),.bool false],.int .i64 0]):=by
  refine qn func105 call105 λV hf=>?_
  exact dw):af 105 a (iD r):=by rw[h];exact q
def MU(P nN)(nS:Δ)(z)(y s)(hP:59<=P/\P<=63)(hf:bB P z=some y)(I:um s)(hl:s.length<=9999999990)(ψ:aP z<=8589934593)
  (B:∀a∈z,∀s',um s'->s'.length<=s.length+1->af 55 [.sl 5 (aD (cw a)),.sl 2 (az s')] (yg (bU (cw a) (s',false)))) :
  af 105 [aV (.mk 2 nN P nS z),.sl 2 (az y),.sl 2 (az s)] (iD (jc P (b8 z) y s)):=by
 have WJ:P=59\/P=60\/P=61\/P=62\/P=63:=by omega
 clear hP;rcases WJ with rfl|rfl|rfl|rfl|rfl
 ·obtain⟨rfl,rfl⟩:=dO hf rfl;clear hf;rcases s with _|⟨⟨T,F⟩,r⟩
  have Q:=me ([]) [6];have G:=me ([]) [10];have E:=me ([]) [13];exact jK;by_cases J:T=6;subst J;have Q:=Be (.mk 6 F::r) [6];have A:=vP (r) [.mk 4 []];have p:=cY 4;exact wQ (l := .mk 4 []::r);by_cases H:T=10;subst H;have Q:=me (.mk 10 F::r) [6];have G:=Be (.mk 10 F::r) [10];have A:=vP (r) [.mk 4 []];have p:=cY 4;exact wQ (l := .mk 4 []::r);by_cases d:T=13;subst d;have Q:=me (.mk 13 F::r) [6];have G:=me (.mk 13 F::r) [10];have E:=Be (.mk 13 F::r) [13];have A:=vP (r) [.mk 4 []];have p:=cY 4;exact wQ (l := .mk 4 []::r);have Q:=me (.mk T F::r) [6];have G:=me (.mk T F::r) [10];have E:=me (.mk T F::r) [13];exact jK
 ·obtain⟨n1,p1,S1,x,rfl,rfl⟩:=MN hf rfl;clear hf;rcases s with _|⟨⟨T,F⟩,r⟩
  have Q:=me ([]) [10];have G:=me ([]) [13];exact jK;by_cases J:T=10;subst J;simp only[aat]at hl;have zr:=aY r;have oK:=(qS I).2;obtain⟨⟨X,S⟩,rfl,O⟩:=dD (I (.mk 10 F) cS) rfl;have Q:=Be (.mk 10 [.mk X S]::r) [10];have w1:=B (.mk 3 n1 p1 S1 x) cS (.mk X S::r) (nr O oK) ek;have D:=mu x (.mk X S::r,false) (nr O oK);rw[show jc 60 (b8 ([.mk 3 n1 p1 S1 x])) ([]) (.mk 10 [.mk X S]::r)=cJ (bU x (.mk X S::r,false)) (fO (r))from by simp[jc,cL,aL,aQ,aaw,aay,dQ,b8]];simp only[cw]at w1;generalize bU x (.mk X S::r,false)=r1 at w1 D ⊢;obtain⟨⟨t1,C⟩,e1⟩:=r1;simp only[aat]at D;change aZ _ _ _ _ (iD (cJ ((t1,C),e1) ((r,false),0)));have hm:=kf ((t1,C),e1) ((r,false),0) D.1 u7;generalize cJ ((t1,C),e1) ((r,false),0)=rm at hm ⊢;obtain⟨⟨tm,bm⟩,em⟩:=rm;refine qn func105 call105 λβ hf=>?_;have BB:=fX r ai;exact dw;by_cases H:T=13;subst H;simp only[aat]at hl;have zr:=aY r;have oK:=(qS I).2;have O:mN (.mk 11 F):=CQ (I (.mk 13 F) cS) Z;obtain⟨⟨X,S⟩,⟨Y,N⟩,rfl,hx1,hy1⟩:=dr O rfl;have Q:=me (.mk 13 [.mk X S,.mk Y N]::r) [10];have G:=Be (.mk 13 [.mk X S,.mk Y N]::r) [13];have w1:=B (.mk 3 n1 p1 S1 x) cS (.mk 11 [.mk X S,.mk Y N]::r) (nr O oK) ek;have D:=mu x (.mk 11 [.mk X S,.mk Y N]::r,false) (nr O oK);rw[show jc 60 (b8 ([.mk 3 n1 p1 S1 x])) ([]) (.mk 13 [.mk X S,.mk Y N]::r)=cJ (bU x (.mk 11 [.mk X S,.mk Y N]::r,false)) (fO (r))from by simp[jc,cL,aL,aQ,aaw,aay,dQ,b8]];simp only[cw]at w1;generalize bU x (.mk 11 [.mk X S,.mk Y N]::r,false)=r1 at w1 D ⊢;obtain⟨⟨t1,C⟩,e1⟩:=r1;simp only[aat]at D;change aZ _ _ _ _ (iD (cJ ((t1,C),e1) ((r,false),0)));have hm:=kf ((t1,C),e1) ((r,false),0) D.1 u7;generalize cJ ((t1,C),e1) ((r,false),0)=rm at hm ⊢;obtain⟨⟨tm,bm⟩,em⟩:=rm;refine qn func105 call105 λβ hf=>?_;have Mp:=dN 11 [.mk X S,.mk Y N];have WM:=fX r ai;exact dw;have Q:=me (.mk T F::r) [10];have G:=me (.mk T F::r) [13];exact jK
 obtain⟨x0,p,t,u,rfl,rfl,ht,hu⟩:=Zv hf rfl;clear hf;have χ:=ht.2;obtain⟨V,ws⟩:=t;have υ:=hu.2;obtain⟨V2,TH⟩:=u;have m:=nv (.mk V ws) ai;cases M:fZ (.mk V ws);rw[M]at m;exact jK;rw[M]at m;have A:=vP (s) [.mk 13 [.mk V ws,.mk V2 TH]];have p:=dN 13 [.mk V ws,.mk V2 TH];exact wQ (l := .mk 13 [.mk V ws,.mk V2 TH]::s)
 ·obtain⟨rfl,rfl⟩:=dO hf rfl;clear hf;rcases s with _|⟨⟨T,F⟩,_|⟨⟨U,j⟩,q⟩⟩
  have K:=me ([]) [0,13];exact jK;have K:=me ([.mk T F]) [0,13];exact jK;by_cases hU:U=13;subst hU;obtain⟨⟨X,S⟩,⟨Y,N⟩,rfl,O,hy⟩:=dr (I (.mk 13 j) cS) rfl;have K:=Be (.mk T F :: .mk 13 [.mk X S,.mk Y N]::q) [0,13];have τ:=hy.2;have i:=gC (.mk T F) (.mk X S) (by have:=(I (.mk T F) cS).2;omega);have m:=xo (.mk Y N) ai;cases f:cx (.mk T F) (.mk X S);rw[f]at i;exact jK;cases M:jI (.mk Y N);rw[f]at i;rw[M]at m;exact jK;rw[f]at i;rw[M]at m;have A:=vP (q) [.mk 9 [.mk Y N]];have p:=dN 9 [.mk Y N];exact wQ (l := .mk 9 [.mk Y N]::q);have K:=me (.mk T F :: .mk U j::q) [0,13];exact jK
 obtain⟨rfl,rfl⟩:=dO hf rfl;clear hf;rcases s with _|⟨⟨T,F⟩,_|⟨⟨U,j⟩,_|⟨⟨W,qs⟩,q⟩⟩⟩
 have K:=me ([]) [0,9,13];exact jK;have K:=me ([.mk T F]) [0,9,13];exact jK;have K:=me ([.mk T F,.mk U j]) [0,9,13];exact jK;by_cases hU:U=9/\W=13;obtain⟨rfl,rfl⟩:=hU;obtain⟨⟨X,S⟩,⟨Y,N⟩,rfl,O,hy⟩:=dr (I (.mk 13 qs) cS) rfl;obtain⟨⟨Zz,os⟩,rfl,hz⟩:=dD (I (.mk 9 j) cS) rfl;have K:=Be (.mk T F :: .mk 9 [.mk Zz os] :: .mk 13 [.mk X S,.mk Y N]::q) [0,9,13];have YC:=hz.2;have i:=gC (.mk T F) (.mk X S) (by have:=(I (.mk T F) cS).2;omega);have m:=gC (.mk Zz os) (.mk Y N) ai;cases f:cx (.mk T F) (.mk X S);rw[f]at i;exact jK;cases M:cx (.mk Zz os) (.mk Y N);rw[f]at i;rw[M]at m;exact jK;rw[f]at i;rw[M]at m;have A:=SK (.mk 13 [.mk X S,.mk Y N]::q);exact wQ (l := .mk 13 [.mk X S,.mk Y N]::q);have d:U=9->¬W=13:=λa b=>hU ⟨a,b⟩;have K:=me (.mk T F :: .mk U j :: .mk W qs::q) [0,9,13];have ω:¬(U=9/\W=13/\cx (.mk T F) (qs.getD 0 kg)=true/\cx (j.getD 0 kg) (qs.getD 1 kg)=true):=λh=>hU ⟨h.1,h.2.1⟩;rw[show jc 63 (b8 ([])) ([]) (.mk T F :: .mk U j :: .mk W qs::q)=br 5 from by unfold jc;rw[if_neg bn,if_neg bn,if_neg bn,if_neg bn,if_pos rfl];exact if_neg ω,dU bn];exact qdw func105 call105
end Go.Proofs
namespace Go.Proofs
open Go.cE
attribute [local irreducible] AK ag aZ bS ee bJ oF bA fZ ey iG cx oJ
def Xf(t:Ty)(v:Vl)(B:bh t<=8589934593)(u:aG v<=8589934593):af 44 [ct t,bz v] (.bool (oJ t v)):=by
 obtain⟨T,Y⟩:=t;obtain⟨U,C,M,W,q,K,O⟩:=v;have V:=mH (.mk T Y) B;cases N:bA (.mk T Y)with
 |false =>
  rw[N]at V;rw[show oJ (.mk T Y) (.mk U C M W q K O)=false from by unfold oJ;rw[N,ahT]];exact qdq func44 call44
 |true =>
  have S:=Ej (.mk U C M W q K O) (.mk T Y) (nw N) u B;rw[N]at V;rw[show oJ (.mk T Y) (.mk U C M W q K O)=bJ (.mk U C M W q K O) (.mk T Y)from by unfold oJ;rw[N,aiM]];generalize bJ (.mk U C M W q K O) (.mk T Y)=b at S;exact qdq func44 call44
end Go.Proofs
namespace Go.cE
def LS(a:Acc):Bool :=
 if cL a.param≠0 then false else if(aQ a.param).length≠0 then false else if cL a.store≠0 then false else if(aQ a.store).length≠0 then false
 else if a.code.length≠0 then false else oF a.keep jl
def lz:L Acc->Int
 |[]=>0
 |a::l=>a.cK+lz l
def Ke(l:eF):Int:=l.fu+lz l.aI
def eJ{i:TI}{r:Φ}{a:Acc}(Y:i.isAgg)(V:i.size=15)(h:takeN 15 r=some (zj a)):mK i r=some (.agg (zj a)):=by unfold mK;simp_all
def ud{l:eF}{i:TI}(Q:l.aI.length=12)(Y:i.isAgg)(V:i.size=180):mK i (cq l)=some (.agg (gL l)):=by unfold mK;rw[Y,V];simp only[Zz Q]
def CJ(Y:Ω):∀l:Ψ,rP Y (l.map AV.c)
 |[]=>by simp only[List.map_nil,rP]
 |c::l=>by simp only[ahM,rP,Ft,CJ Y l]
def je(Y:Ω)(l:eF):rP Y (gL l):=CJ Y _
def fD(Y:Ω)(l:eF):rP Y (cq l):=CJ Y _
def aaW:lz []=0:=rfl
def XS(a:Acc)(l:L Acc):lz (a::l)=a.cK+lz l:=rfl
def Js:∀(l:L Acc),(∀a∈l,0<=a.cK/\a.cK<=4000000)->0<=lz l/\lz l<=4000000*l.length
 |[],_=>by simp[lz]
 |a::l,h=>by have Y:=h a cS;have V:=Js l (λx O=>h x Ko);simp only[lz,aat];omega
end Go.cE
namespace Go.Proofs
open Go.cE
attribute [local irreducible] AK ag aZ bS de cq di gL eF.cF oF lz
def UN(a:Acc)(J:aG a.keep<=1099511627776)(Y:Aw a<=8589934593):af 27 [.agg (zi a)] (.bool (LS a)):=by
 have I:=vj a.keep jl J;unfold LS;obtain⟨P,cK,S,⟨V,T⟩,⟨sT,C⟩,code,⟨k,n,m,s,D,E,W⟩⟩:=a;simp only[Aw,bh]at Y;simp only[cL,aQ]at *;have O:=aY T;have N:=aY C;have M:=bq code;by_cases G:V≠0
 ·rw[if_pos G];have A:(V==0)=false:=by simpa using G
  clear I;refine qn func27 call27 λF hf=>?_
  repeat' (first|refine ju ?_|refine zc ?_ ?_|(intro h;first|(cases h;done)|rw[h]|skip))
  all_goals exact Wk.refl _
 rw[if_neg G];have A:(V==0):=by simpa using G
 by_cases u:T.length≠0
 ·rw[if_pos u];have Q:((((az T).length:Nat):Int)==0)=false:=by rw[ajC];omega
  clear I;refine qn func27 call27 λF hf=>?_
  repeat' (first|refine ju ?_|refine zc ?_ ?_|(intro h;first|(cases h;done)|rw[h]|skip))
  all_goals exact Wk.refl _
 rw[if_neg u];have Q:((((az T).length:Nat):Int)==0):=by rw[akO];omega
 by_cases B:sT≠0
 ·rw[if_pos B];have K:(sT==0)=false:=by simpa using B
  clear I;refine qn func27 call27 λF hf=>?_
  repeat' (first|refine ju ?_|refine zc ?_ ?_|(intro h;first|(cases h;done)|rw[h]|skip))
  all_goals exact Wk.refl _
 rw[if_neg B];have K:(sT==0):=by simpa using B
 by_cases c4:C.length≠0
 ·rw[if_pos c4];have U:((((az C).length:Nat):Int)==0)=false:=by rw[ajC];omega
  clear I;refine qn func27 call27 λF hf=>?_
  repeat' (first|refine ju ?_|refine zc ?_ ?_|(intro h;first|(cases h;done)|rw[h]|skip))
  all_goals exact Wk.refl _
 rw[if_neg c4];have U:((((az C).length:Nat):Int)==0):=by rw[akO];omega
 by_cases p:code.length≠0
 ·rw[if_pos p];have q:((((aD code).length:Nat):Int)==0)=false:=by rw[ajC];omega
  clear I;refine qn func27 call27 λF hf=>?_
  repeat' (first|refine ju ?_|refine zc ?_ ?_|(intro h;first|(cases h;done)|rw[h]|skip))
  all_goals exact Wk.refl _
 rw[if_neg p];have q:((((aD code).length:Nat):Int)==0):=by rw[akO];omega
 refine qn func27 call27 λF hf=>?_
 repeat' (first|refine ju ?_|refine zc ?_ ?_|(intro h;first|(cases h;done)|rw[h]|skip)|refine uC Z I ?_)
 all_goals exact Wk.refl _
set_option maxRecDepth 100000 in
def XT(l:eF)(h12:l.aI.length=12)(V:0<=l.fu/\l.fu<=4000000)(T:∀a∈l.aI,0<=a.cK/\a.cK<=4000000) :
  af 31 [.agg (di l)] (.int .i64 (Ke l)):=by
 have K:=y8 h12;have J:=Js l.aI T;unfold Ke;refine qn func31 call31 λA hf=>?_
 repeat' (first|refine ju ?_|refine zc ?_ ?_|(intro h;first|(cases h;done)|rw[h]|skip)|refine AK.seq ?_|refine ag.box kn Z Z Z Z (iw _) Z ?_|refine ag.dy hX kn Z Z Z Z Z Z Z (ud h12 Z Z) ?_|refine ag.dy hX kn Z Z Z Z Z Z K Z ?_)
 refine AK.dg (α:=Nat×Int) (λz=>z.1<=12/\l.fu+lz l.aI=z.2+lz (l.aI.drop z.1)/\0<=z.2/\z.2<=4000000*(z.1+1)) (λz=>12-z.1)
  (λz=>[(10,Υ z.1),(9,.agg (gL l)),(3,Υ z.2)]) (λ_=>[]) (λ_=>[]) [] (0,l.fu)
  ⟨ai,Z,V.1,by simpa using V.2⟩ ce trivial trivial ac9 Z Z ?_
 rintro⟨j,m⟩ ⟨I,Y,S,F⟩ ih;simp only at I Y S F;by_cases U:j<12
 ·obtain⟨a,Q⟩:∃a,l.aI[j]?=some a:=⟨l.aI[j]' ai,cS⟩;obtain⟨r,d1,d2⟩:=xL h12 Q;have P:=T a (acm Q);have E:Nat.blt j 12:=by rw[ajd];exact U
  have D:decide ((j:Int)<12):=ace ai;rw[cT Q,XS]at Y;have N:=ih (j+1,m+a.cK) ⟨U,by rw[Y];show _=m+a.cK+lz (l.aI.drop (j+1));omega,by show 0<=m+a.cK;omega,by show m+a.cK<=_;push_cast;omega⟩ (by show 12-(j+1)<12-j;omega);clear ih Y T J;obtain⟨is,cK,cnt,⟨y,x⟩,⟨sT,u⟩,code,⟨k,n,q,s,M,O,C⟩⟩:=a;simp only at P N
  repeat' (first|refine ju ?_|refine zc ?_ ?_|(intro h;first|(cases h;done)|rw[h]|skip)|refine ag.eW hX kn Z Z Z Z Z Z Z Z Z E d1 (eJ Z Z d2) ?_)
  have B:some (AV.c (CV.int .i64 (i64.wrap (m+cK))))=some (AV.c (CV.int .i64 (m+cK))):=by rw[gW ai ai]
  refine AK.again N ⟨.inl (dz (i:=j) ai),.inl Z,.inl B,trivial⟩ trivial trivial ac9 Z Z
 have D:decide ((j:Int)<12)=false:=acf ai;have hall:l.fu+lz l.aI=m:=by rw[Y,aiJ ai,aaW,Int.add_zero]
 rw[hall];clear ih
 repeat' (first|refine ju ?_|refine zc ?_ ?_|(intro h;first|(cases h;done)|rw[h]|skip))
 all_goals exact Wk.refl _
end Go.Proofs
