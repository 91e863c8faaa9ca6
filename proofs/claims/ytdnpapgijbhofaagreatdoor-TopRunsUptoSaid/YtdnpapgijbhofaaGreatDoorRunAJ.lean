/- Package run: -/
import Derived.Test.YtdnpapgijbhofaaGreatDoorRunAB
set_option linter.defProp false
set_option linter.unusedVariables false
set_option linter.unusedSimpArgs false
namespace Go.Proofs
open Go.cw
def Fk{v:Vl}{t u:Ty}(h:bE v (.mk 13 [t,u])=true)(C:eU v=true):∃l,v = .mk 13 0 0 [] l [] []/\l.length<=24/\aL l (.mk 11 [t,u])=true/\Bl l=true/\ej l=true:=by obtain⟨k,n,a,s,M,V,code⟩:=v;obtain⟨A,S,_⟩:=ja h;simp only[dD]at A;subst A;simp[cA]at S;simp[bE,cA,dD,aU,aV]at h;obtain⟨rfl,rfl,rfl,rfl⟩:=S;simp[eU]at C;obtain⟨_,⟨⟨h1,h2⟩,K⟩,Y⟩:=h;exact⟨M,by rw[h1],h2,K,Y,C⟩
def Ce{l:L Vl}{t u:Ty}(I:l.length<=24)(h:aL l (.mk 11 [t,u])=true)(T:Bl l=true)(C:ej l=true):bE (.mk 13 0 0 [] l [] []) (.mk 13 [t,u])=true/\eU (.mk 13 0 0 [] l [] [])=true:=by simp[bE,cA,dD,aU,aV,eU,h,C,I,T]
def aa5{P:Int}{M:L Nd}{V:L Ty}(h:bP P M=some V)(C:gH P=[116,116]):∃x y,M=[x,y]/\(aJ x).2=0/\(aJ y).2=0/\V=[(aJ x).1,(aJ y).1]:=by
 obtain⟨h1,h2⟩:=lu h;rw[C]at h1 h2;rcases M with _|⟨x,_|⟨y,_|⟨z,r⟩⟩⟩
 simp at h1;simp at h1;obtain⟨W,N,p,q,xs⟩:=x;obtain⟨Y,T,S,Q,U⟩:=y;have K:(if(aJ (.mk W N p q xs)).2=0 then(if(aJ (.mk Y T S Q U)).2=0 then some ([]++[(aJ (.mk W N p q xs)).1]++[(aJ (.mk Y T S Q U)).1])else none)else none)=some V:=h2;split at K;grind;cases K;simp at h1
def Tx:bY 57=2:=by decide +kernel
def Tz:bY 59=1:=by decide +kernel
def TA:bY 61=0:=by decide +kernel
def RG(S:bZ)(A:Int)(K:L UInt8)(M:L Nd)(codes:L (L Ty->CR))(V s:L Ty)(r:L Ty×Bool)(hf:bP 57 M=some V)(C:ew s S.st)(hl:s.length<=340)(hg:r.1.all br=true)(Y:dU 57 codes V s=(r,0)):bg A K 57 M S/\bQ S r (aE 57 M S):=by
 obtain⟨a,b,c,d,st,H,g,u,m,Q⟩:=S;obtain⟨rfl,rfl⟩:=cK hf bn;have B:=bL C;simp only at C B;rcases s with _|⟨W,_|⟨t2,s⟩⟩
 cases Y;cases Y;obtain⟨v,q0,rfl,hv,qO⟩:=aW C;obtain⟨w,q,rfl,hw,hq⟩:=aW qO;have f1:=cQ hv.1;have T:=cQ hw.1;obtain⟨D,Fc⟩:=t2;simp only[aag]at B hl;have P:(if D=10/\cV W (aU (.mk D Fc) 0)=true then gy (.mk D Fc::s)else bw 5)=(r,0):=Y;split at P;rotate_left;cases P;rename_i c1;cases P;obtain⟨rfl,c2⟩:=c1;obtain⟨t,rfl,Tw⟩:=fN (cF T.1) bn;have et:W=t:=(gq _ _).1 c2;subst et;obtain⟨l,rfl,Bi,N,J⟩:=xW T.2.1 T.2.2;have hsz:=hv.2;have I:=hw.2;simp only[aH,bp,aO,aay]at I;unfold bg;have e:aE 57 [] ⟨a,b,c,d,v :: .mk 10 0 0 [] l [] []::q,H,g,u,m,Q⟩=(if 24<=l.length then(13,⟨a,b,c,d,q,H,g,u,m,Q⟩)else aY ⟨a,b,c,d,q,H,g,u,m,Q⟩ [.mk 10 0 0 [] (v::l) [] []]):=by unfold aE;rw[Tx];rfl
 rw[e];have pX:=f1.2;have U:aL (v::l) W=true:=by simp[aL,pX.1,N]
 have G:ej (v::l)=true:=by simp[ej,pX.2,J]
 have sP:aH (.mk 10 0 0 [] (v::l) [] [])<=8589934593:=by simp only[aH,aI,bp,aO,aay];omega
 have hk:∀(e:Int)(E:bZ),cH 137 ⟨a,b,c,d,q,H,g,u,m,Q⟩ [.c (aM (.mk 2 A 57 K [])),.c (.sl 7 (aa [v,.mk 10 0 0 [] l [] []]))] (ag e) E->cH 109 ⟨a,b,c,d,v :: .mk 10 0 0 [] l [] []::q,H,g,u,m,Q⟩ [.c (aM (.mk 2 A 57 K []))] (ag e) E:=λe E h =>
  sH _ _ 2 A 57 K _ [_,_] q _ bn (by rw[Tx];rfl) (by show List.length (v::Vl.mk 10 0 0 [] l [] []::q)<=_;simp only[aag];omega) h
 obtain⟨k1,n1,a1,s1,O,an,aA⟩:=v;by_cases h:24<=l.length;rw[if_pos h];exact⟨hk _ _ (OS ⟨a,b,c,d,q,H,g,u,m,Q⟩ A K k1 n1 a1 s1 O an aA 10 0 0 [] l [] [] h bT),.inr (.inr Z)⟩;rw[if_neg h];exact⟨hk _ _ (OT ⟨a,b,c,d,q,H,g,u,m,Q⟩ A K k1 n1 a1 s1 O an aA 10 0 0 [] l [] [] h sP bT),cg (S:=⟨a,b,c,d,q,H,g,u,m,Q⟩) (fX (bC hg) (Hl cS U G)) hq⟩
def RH(S:bZ)(A:Int)(K:L UInt8)(M:L Nd)(codes:L (L Ty->CR))(V s:L Ty)(r:L Ty×Bool)(hf:bP 59 M=some V)(C:ew s S.st)(hl:s.length<=340)(hg:r.1.all br=true)(Y:iW 59 codes V s=(r,0)):bg A K 59 M S/\bQ S r (aE 59 M S):=by
 obtain⟨a,b,c,d,st,H,g,u,m,Q⟩:=S;obtain⟨rfl,rfl⟩:=cK hf bn;have E:=bL C;simp only at C E;cases s with
 |nil=>cases Y
 |cons t s =>
 obtain⟨v,q,rfl,N,hq⟩:=aW C;have D:=cQ N.1;obtain⟨T,ts⟩:=t;simp only[aag]at E hl;have W:(if T=6\/T=10\/T=13 then gy (.mk 4 []::s)else bw 5)=(r,0):=Y;split at W;rotate_left;cases W;rename_i c1;cases W;have hb:(vS v).length+(ez v).length<=200:=by
  rcases c1 with rfl|rfl|rfl
  obtain⟨U,rfl,g1⟩:=zF D.2.1;simpa[vS,ez]using g1;obtain⟨t,rfl,_⟩:=fN (cF D.1) bn;obtain⟨l,rfl,Bi,_,_⟩:=xW D.2.1 D.2.2;simp[vS,ez];omega;obtain⟨t,t',rfl,_,_⟩:=fE (cF D.1) bn;obtain⟨l,rfl,Bi,_,_,_⟩:=Fk D.2.1 D.2.2;simp[vS,ez];omega
 unfold bg;have e:aE 59 [] ⟨a,b,c,d,v::q,H,g,u,m,Q⟩=aY ⟨a,b,c,d,q,H,g,u,m,Q⟩ [aK 4 (((vS v).length+(ez v).length:Nat):Int)]:=by unfold aE;rw[Tz];rfl
 rw[e];clear N D C Y;obtain⟨J,P,I,U,O,G,B⟩:=v;simp only[vS,ez]at hb ⊢;exact⟨sH _ _ 2 A 59 K _ [_] q _ bn (by rw[Tz];rfl) (by show List.length (Vl.mk J P I U O G B::q)<=_;simp only[aag];omega) (RI ⟨a,b,c,d,q,H,g,u,m,Q⟩ A K J P I U O G B ai bT),cg (S:=⟨a,b,c,d,q,H,g,u,m,Q⟩) (fX (bC hg) (jW bn gb (λ_=>by omega))) hq⟩
def OU(S:bZ)(A:Int)(K:L UInt8)(M:L Nd)(codes:L (L Ty->CR))(V s:L Ty)(r:L Ty×Bool)(hf:bP 61 M=some V)(C:ew s S.st)(P:s.length<=340)(G:r.1.all br=true)(I:iW 61 codes V s=(r,0)):bg A K 61 M S/\bQ S r (aE 61 M S):=by
 obtain⟨a,b,c,d,q,H,g,u,m,Q⟩:=S;obtain⟨x,y,rfl,D,U,rfl⟩:=aa5 hf bn;have E:=bL C;simp only at C E;have Y:(if gl (aJ x).1=true then gy (.mk 13 [(aJ x).1,(aJ y).1]::s)else bw 5)=(r,0):=I;split at Y;rotate_left;cases Y;cases Y;unfold bg;have e:aE 61 [x,y] ⟨a,b,c,d,q,H,g,u,m,Q⟩=aY ⟨a,b,c,d,q,H,g,u,m,Q⟩ [.mk 13 0 0 [] [] [] []]:=by unfold aE;rw[TA];rfl
 rw[e];exact⟨sH _ _ 2 A 61 K _ [] q _ bn (by rw[TA];rfl) bT (OV ⟨a,b,c,d,q,H,g,u,m,Q⟩ A K x y bT),cg (S:=⟨a,b,c,d,q,H,g,u,m,Q⟩) (fX (bC G) (Ce bn Z Z Z)) C⟩
def qd{x:Vl}{t u:Ty}(h:bE x (.mk 11 [t,u])=true):∃y z,x=bh y z/\bE y t=true/\bE z u=true:=by
 obtain⟨k,n,a,s,M,V,code⟩:=x;obtain⟨A,S,_⟩:=ja h;subst A;simp[cA]at S;simp[bE,cA,dD,aV]at h;obtain⟨rfl,rfl,rfl,rfl⟩:=S;rcases M with _|⟨x,_|⟨y,_|⟨z,r⟩⟩⟩
 grind;grind;simp[dA]at h;exact⟨x,y,by rw[h.1];rfl,h.2.1,h.2.2⟩;grind
def zG(y z:Vl):nH (bh y z)=y:=rfl
def J5{t:Ty}(Y:gl t=true)(U:iC t=false){a b c:Vl}(h1:bE a t=true)(h2:bE b t=true)(K:bE c t=true)(C:dS a b<0)(W:dS b c<0):dS a c<0:=by obtain⟨_,_,_,_,g⟩:=Cf a b c t Y U h1 h2 K;have:=g.1 ai ai;omega
def RJ{t u:Ty}(I:gl t=true)(q:iC t=false):∀(l:L Vl)(x:Vl),aL (x::l) (.mk 11 [t,u])=true->Bl (x::l)=true->∀y∈l,dS (nH x) (nH y)<0
 |[],x,_,_,y,U=>by simp at U
 |z::r,x,hA,hu,y,U=>by
  simp only[aL,aaN]at hA;simp only[Bl,aaN,agh]at hu;rcases List.mem_cons.1 U with rfl|Y
  omega;have T:=RJ I q r z (by simp only[aL,aaN];exact hA.2) (by simpa[Bl]using hu.2) y Y;obtain⟨J,Q,rfl,D,_⟩:=qd hA.1;obtain⟨C,P,rfl,S,_⟩:=qd hA.2.1;have W:=(fQ (.mk 11 [t,u]) r).1 hA.2.2 y Y;obtain⟨O,A,rfl,V,_⟩:=qd W;exact J5 I q D S V hu.1 T
def TB{t u:Ty}(I:gl t=true)(U:iC t=false){k:Vl}(A:bE k t=true):∀(l:L Vl),aL l (.mk 11 [t,u])=true->Bl l=true->∀(i:Nat) x,cC l k<=i->l[i]?=some x->¬dS (nH x) k<0
 |[],_,_,i,x,_,h=>by simp at h
 |z::l,hA,hu,i,x,hi,h=>by
  have W:bE z (.mk 11 [t,u])=true/\aL l (.mk 11 [t,u])=true:=by simpa[aL]using hA
  have V:Bl l=true:=by
   cases l with
   |nil=>rfl
   |cons y r=>simp only[Bl,aaN]at hu;simpa[Bl]using hu.2
  by_cases T:dS (nH z) k<0
  ·simp only[cC,T,if_true]at hi;cases i with
   |zero=>omega
   |succ j=>exact TB I U A l W.2 V j x ai oe
  cases i with
  |zero=>simp at h;subst h;exact T
  |succ j =>
   have Y:=abz (show l[j]?=some x by simpa using h);have G:=RJ I U l z hA hu x Y;obtain⟨C,P,rfl,Q,_⟩:=qd W.1;obtain⟨J,O,rfl,S,_⟩:=qd ((fQ (.mk 11 [t,u]) l).1 W.2 x Y);intro D;exact T (J5 I U Q S A G D)
def Ho{l:L Vl}{t u:Ty}{k:Vl}(I:gl t=true)(U:iC t=false)(Y:aL l (.mk 11 [t,u])=true)(T:Bl l=true)(A:bE k t=true)(P:l.length<=24)(C:aI l<=1000000000):af 158 [.sl 7 (aa l),bA k] (.eF [ag (cC l k:Nat),.bool (fS l k)]):=by
 refine LM l k ai (λx D=>?_) (TB I U A l Y T);obtain⟨y,z,rfl,q,_⟩:=qd ((fQ (.mk 11 [t,u]) l).1 Y x D);have h1:=fC D;have h2:aH y<=aH (bh y z):=by simp only[bh,aH,aI];omega
 exact IY (bh y z) k y t Z (qe y k t U q A ai)
def TC:bY 62=2:=by decide +kernel
def TD{t u:Ty}(h:br (.mk 13 [t,u])=true):gl t=true/\iC t=false:=by
 have h1:=RK h;simp only[OW,aaN]at h1;have h2:lX [t,u]=true:=by simpa using h1.1
 exact⟨by simpa[lX]using h2,dO (jD (nQ h)).2 (show t∈aV (.mk 13 [t,u])by simp[aV])⟩
def Ve(S:bZ)(A:Int)(K:L UInt8)(M:L Nd)(codes:L (L Ty->CR))(V s:L Ty)(r:L Ty×Bool)(hf:bP 62 M=some V)(B:ew s S.st)(hl:s.length<=340)(hg:r.1.all br=true)(hc:iW 62 codes V s=(r,0)):bg A K 62 M S/\bQ S r (aE 62 M S):=by
 obtain⟨a,b,c,d,st,H,g,u,m,Q⟩:=S;obtain⟨rfl,rfl⟩:=cK hf bn;have fF:=bL B;simp only at B fF;rcases s with _|⟨t1,_|⟨t2,s⟩⟩
 cases hc;cases hc;obtain⟨v,q0,rfl,hv,qO⟩:=aW B;obtain⟨w,q,rfl,hw,hq⟩:=aW qO;have f1:=cQ hv.1;have U:=cQ hw.1;obtain⟨T,Fc⟩:=t2;simp only[aag]at fF hl;have dg:(if T=13/\cV t1 (aU (.mk T Fc) 0)=true/\ni (aU (.mk T Fc) 1)=true then gy (.mk 9 [aU (.mk T Fc) 1]::s)else bw 5)=(r,0):=hc;split at dg;rotate_left;cases dg;rename_i c1;obtain⟨rfl,c2,_⟩:=c1;obtain⟨t,t',rfl,Tw,ZM⟩:=fE (cF U.1) bn;cases dg;have et:t1=t:=(gq _ _).1 c2;subst et;obtain⟨l,rfl,Bi,W,hlu,hls⟩:=Fk U.2.1 U.2.2;have hsw:=hw.2;simp only[aH,bp,aO,aay]at hsw;have RL:=TD U.1;have P:=Ho RL.1 RL.2 W hlu f1.2.1 Bi ai;unfold bg;have e:aE 62 [] ⟨a,b,c,d,v :: .mk 13 0 0 [] l [] []::q,H,g,u,m,Q⟩=(if fS l v=true then aY ⟨a,b,c,d,q,H,g,u,m,Q⟩ [cD [lV (ez (lV l (cC l v))) 1]]else aY ⟨a,b,c,d,q,H,g,u,m,Q⟩ [cD []]):=by unfold aE;rw[TC];rfl
 rw[e];have hk:∀(e:Int)(S':bZ),cH 137 ⟨a,b,c,d,q,H,g,u,m,Q⟩ [.c (aM (.mk 2 A 62 K [])),.c (.sl 7 (aa [v,.mk 13 0 0 [] l [] []]))] (ag e) S'->cH 109 ⟨a,b,c,d,v :: .mk 13 0 0 [] l [] []::q,H,g,u,m,Q⟩ [.c (aM (.mk 2 A 62 K []))] (ag e) S':=λe S' h =>
  sH _ _ 2 A 62 K _ [_,_] q _ bn (by rw[TC];rfl) (by show List.length (v::Vl.mk 13 0 0 [] l [] []::q)<=_;simp only[aag];omega) h
 by_cases h:fS l v=true
 ·rw[if_pos h];have D:∃x,l[cC l v]?=some x:=by
   unfold fS at h;cases hh:l[cC l v]? with
   |none=>rw[hh]at h;cases h
   |some x=>exact⟨x,Z⟩
  obtain⟨x,D⟩:=D;have Y:=abz D;obtain⟨y,z,rfl,hy,Uq⟩:=qd ((fQ _ l).1 W x Y);rw[h]at P;rw[Yc D,show lV (ez (bh y z)) 1=z from rfl];have hsn:eU z=true:=by
   have:∀{l:L Vl}{x:Vl},ej l=true->x∈l->eU x=true:=by
    intro l
    induction l with
    |nil=>intro x _ h;simp at h
    |cons y l ih =>
     intro x h D;simp only[ej,aaN]at h;rcases List.mem_cons.1 D with rfl|D
     exact h.1;exact ih h.2 D
   have h1:=this hls Y;simp[bh,eU,ej]at h1;exact h1.2
  have MV:=fC Y;have hz2:aH z<=aH (bh y z):=by simp only[bh,aH,aI];omega
  obtain⟨J,E,N,I,O,G,C⟩:=v;exact⟨hk _ _ (RM ⟨a,b,c,d,q,H,g,u,m,Q⟩ A K J E N I O G C 13 0 0 [] l [] [] (cC l (.mk J E N I O G C)) P y y z [] 11 0 0 [] [] D ai bT),cg (S:=⟨a,b,c,d,q,H,g,u,m,Q⟩) (fX (bC hg) (jK ⟨Uq,hsn⟩)) hq⟩
 rw[if_neg h];rw[show fS l v=false by simpa using h]at P;obtain⟨J,E,N,I,O,G,C⟩:=v;exact⟨hk _ _ (RN ⟨a,b,c,d,q,H,g,u,m,Q⟩ A K J E N I O G C 13 0 0 [] l [] [] _ P bT),cg (S:=⟨a,b,c,d,q,H,g,u,m,Q⟩) (fX (bC hg) oO) hq⟩
def YE{t:Ty}(Y:gl t=true)(U:iC t=false){a b:Vl}(h1:bE a t=true)(h2:bE b t=true)(h:¬dS a b<0)(C:dS a b≠0):dS b a<0:=by obtain⟨g,_⟩:=Cf a b b t Y U h1 h2 h2;omega
def vl{x y:Vl}{l:L Vl}(h:dS (nH x) (nH y)<0)(T:Bl (y::l)=true):Bl (x::y::l)=true:=by rw[Bl];simp;exact⟨h,T⟩
def A7{x y:Vl}{l:L Vl}(T:Bl (x::y::l)=true):dS (nH x) (nH y)<0/\Bl (y::l)=true:=by rw[Bl]at T;simpa only[aaN,agh]using T
def RO{t u:Ty}(I:gl t=true)(q:iC t=false){k:Vl}(A:bE k t=true)(y:Vl):∀(l:L Vl),aL l (.mk 11 [t,u])=true->Bl l=true->fS l k=false->Bl (l.take (cC l k)++bh k y::l.drop (cC l k))=true
 |[],_,_,_=>rfl
 |x::l,hA,hu,hf=>by
  have S:bE x (.mk 11 [t,u])=true/\aL l (.mk 11 [t,u])=true:=by simpa[aL]using hA
  obtain⟨J,Q,rfl,W,_⟩:=qd S.1;by_cases Y:dS J k<0
  ·have C:cC (bh J Q::l) k=cC l k+1:=(by simp only[cC,zG,Y,if_true]);have V:fS l k=false:=(by unfold fS at hf ⊢;simp_all);rw[C];cases l with
   |nil=>exact vl (show dS J k<0 from Y) Z
   |cons z r =>
    have U:=RO I q A y (z::r) S.2 (A7 hu).2 V;have T:=(A7 hu).1;generalize cC (z::r) k=i at U;cases i with
    |zero=>exact vl (show dS J k<0 from Y) U
    |succ j=>exact vl T U
  have C:cC (bh J Q::l) k=0:=by simp only[cC,zG,Y,agL]
  rw[C];have P:dS J k≠0:=by unfold fS at hf;rw[C]at hf;have O:decide (dS J k=0)=false:=hf;simp_all
  exact vl (show dS k J<0 from YE I q W A Y P) hu
def RP{t u:Ty}(Y:gl t=true)(U:iC t=false):∀(l:L Vl)(i:Nat),aL l (.mk 11 [t,u])=true->Bl l=true->Bl (l.take i++l.drop (i+1))=true
 |[],i,_,_=>by simp[Bl]
 |x::l,0,hA,hu=>by
  cases l with
  |nil=>rfl
  |cons z r=>exact(A7 hu).2
 |x::l,i+1,hA,hu=>by
  have V:bE x (.mk 11 [t,u])=true/\aL l (.mk 11 [t,u])=true:=by simpa[aL]using hA
  cases l with
  |nil=>simp[Bl]
  |cons z r =>
   have W:=RP Y U (z::r) i V.2 (A7 hu).2;cases i with
   |zero =>
    cases r with
    |nil=>rfl
    |cons w r=>exact vl (RJ Y U (z::w::r) x hA hu w cc) W
   |succ j=>exact vl (A7 hu).1 W
def TE{t u:Ty}(I:gl t=true)(U:iC t=false){k:Vl}(A:bE k t=true):∀(l:L Vl),aL l (.mk 11 [t,u])=true->Bl l=true->fS l k=true->cC (l.take (cC l k)++l.drop (cC l k+1)) k=cC l k/\fS (l.take (cC l k)++l.drop (cC l k+1)) k=false
 |[],_,_,hf=>by simp[fS]at hf
 |x::l,hA,hu,hf=>by
  have W:bE x (.mk 11 [t,u])=true/\aL l (.mk 11 [t,u])=true:=by simpa[aL]using hA
  obtain⟨J,Q,rfl,Y,_⟩:=qd W.1;have V:Bl l=true:=by
   cases l with
   |nil=>rfl
   |cons z r=>exact(A7 hu).2
  by_cases P:dS J k<0
  ·have B:∀m:L Vl,cC (bh J Q::m) k=cC m k+1:=λm=>by simp only[cC,zG,P,if_true]
   have T:∀m:L Vl,fS (bh J Q::m) k=fS m k:=λm=>by unfold fS;rw[B];rfl
   rw[T]at hf;have H:=TE I U A l W.2 V hf;simp_all
  have B:cC (bh J Q::l) k=0:=by simp only[cC,zG,P,agL]
  unfold fS at hf;rw[B]at hf;have N:dS J k=0:=aeR hf;have S:J=k:=(Cf J k k t I U Y A A).zero.1 N;subst S;rw[B];show cC l J=0/\fS l J=false;cases l with
  |nil=>exact⟨Z,Z⟩
  |cons z r =>
   obtain⟨C,M,rfl,O,_⟩:=qd ((fQ _ _).1 W.2 z cc);have G:dS J C<0:=(A7 hu).1;have g:=Cf J C C t I U Y O O;have K:dS C J>0:=(by have:=g.neg;omega);have h1:cC (bh C M::r) J=0:=(by exact if_neg (show ¬dS C J<0 by omega));refine⟨h1,?_⟩;unfold fS;rw[h1];show decide (dS C J=0)=false;exact aaY ai
def nU{t:Ty}:∀(a b:L Vl),aL (a++b) t=(aL a t&&aL b t)
 |[],b=>by simp[aL]
 |x::a,b=>by simp only[aeN,aL,nU a b,aiB]
def rH:∀(a b:L Vl),ej (a++b)=(ej a&&ej b)
 |[],b=>by simp[ej]
 |x::a,b=>by simp only[aeN,ej,rH a b,aiB]
def nV:∀(a b:L Vl),aI (a++b)=aI a+aI b
 |[],b=>by simp[aI]
 |x::a,b=>by simp only[aeN,aI,nV a b];omega
def yD{t:Ty}{l:L Vl}(h:aL l t=true)(i:Nat):aL (l.take i) t=true/\aL (l.drop i) t=true:=by have e:=nU (t:=t) (l.take i) (l.drop i);rw[agc,h]at e;simpa using e.symm
def Dx{l:L Vl}(h:ej l=true)(i:Nat):ej (l.take i)=true/\ej (l.drop i)=true:=by have e:=rH (l.take i) (l.drop i);rw[agc,h]at e;simpa using e.symm
def yE(l:L Vl)(i:Nat):aI (l.take i)+aI (l.drop i)=aI l:=by have e:=nV (l.take i) (l.drop i);rw[agc]at e;omega
def LN:bY 63=3:=by decide +kernel
def LO(S:bZ)(G:Int)(D:L UInt8)(B:L Nd)(codes:L (L Ty->CR))(types s:L Ty)(r:L Ty×Bool)(hf:bP 63 B=some types)(hs:ew s S.st)(hl:s.length<=340)(hg:r.1.all br=true)(hc:iW 63 codes types s=(r,0)):bg G D 63 B S/\bQ S r (aE 63 B S):=by
 obtain⟨a,b,c,d,st,H,g,u,m,Q⟩:=S;obtain⟨rfl,rfl⟩:=cK hf bn;have fF:=bL hs;simp only at hs fF;rcases s with _|⟨t1,_|⟨t2,_|⟨t3,s⟩⟩⟩
 cases hc;cases hc;cases hc;obtain⟨v,q0,rfl,hv,qO⟩:=aW hs;obtain⟨w,q1,rfl,hw,ZL⟩:=aW qO;obtain⟨z,q,rfl,hz,hq⟩:=aW ZL;have f1:=cQ hv.1;have f2:=cQ hw.1;have f3:=cQ hz.1;obtain⟨T2,Fc⟩:=t2;obtain⟨T3,ts3⟩:=t3;simp only[aag]at fF hl;have dg:(if T2=9/\T3=13/\cV t1 (aU (.mk T3 ts3) 0)=true/\cV (aU (.mk T2 Fc) 0) (aU (.mk T3 ts3) 1)=true then gy (.mk T3 ts3::s)else bw 5)=(r,0):=hc;split at dg;rotate_left;cases dg;rename_i c1;cases dg;obtain⟨rfl,rfl,c2,c3⟩:=c1;obtain⟨t0,rfl,ok0⟩:=fN (cF f2.1) bn;obtain⟨t,t',rfl,Tw,ZM⟩:=fE (cF f3.1) bn;have et:t1=t:=(gq _ _).1 c2;have et2:t0=t':=(gq _ _).1 c3;subst et et2;obtain⟨l,rfl,Bi,U,P,hls⟩:=Fk f3.2.1 f3.2.2;have hsw:=hz.2;simp only[aH,bp,aO,aay]at hsw;have hsv:=hv.2;have C:=TD f3.1;have N:=Ho C.1 C.2 U P f1.2.1 Bi ai;have hil:=Hp l v;have QV:=yE l (cC l v);have OX:=yE l (cC l v+1);have E4:=yD U (cC l v);have KJ:=yD U (cC l v+1);have W:=Dx hls (cC l v);have T:=Dx hls (cC l v+1);have hk:∀(e:Int)(S':bZ),cH 137 ⟨a,b,c,d,q,H,g,u,m,Q⟩ [.c (aM (.mk 2 G 63 D [])),.c (.sl 7 (aa [v,w,.mk 13 0 0 [] l [] []]))] (ag e) S'->cH 109 ⟨a,b,c,d,v::w :: .mk 13 0 0 [] l [] []::q,H,g,u,m,Q⟩ [.c (aM (.mk 2 G 63 D []))] (ag e) S':=λe S' h =>
  sH _ _ 2 G 63 D _ [_,_,_] q _ bn (by rw[LN];rfl) (by show List.length (v::w::Vl.mk 13 0 0 [] l [] []::q)<=_;simp only[aag];omega) h
 unfold bg;rcases TF f2.2.1 f2.2.2 with rfl|⟨y,rfl,hy⟩
 ·have e:aE 63 [] ⟨a,b,c,d,v::cD [] :: .mk 13 0 0 [] l [] []::q,H,g,u,m,Q⟩=aY ⟨a,b,c,d,q,H,g,u,m,Q⟩ [.mk 13 0 0 [] (if fS l v=true then l.take (cC l v)++l.drop (cC l v+1)else l) [] []]:=by unfold aE;rw[LN];rfl
  rw[e];by_cases h:fS l v=true
  ·rw[if_pos h];have V:=RP C.1 C.2 l (cC l v) U P;rw[h]at N;have hi:cC l v<l.length:=by
    unfold fS at h;cases hh:l[cC l v]? with
    |none=>rw[hh]at h;cases h
    |some x=>exact(List.getElem?_eq_some_iff.1 hh).1
   have OY:=Ce (l:=l.take (cC l v)++l.drop (cC l v+1)) (t:=t1) (u:=t0) ace (by rw[nU,E4.1,KJ.2];rfl) V (by rw[rH,W.1,T.2];rfl);have Y:aH (.mk 13 0 0 [] (l.take (cC l v)++l.drop (cC l v+1)) [] [])<=8589934593:=(by simp only[aH,nV,bp,aO,aay];omega);refine⟨hk _ _ ?_,cg (S:=⟨a,b,c,d,q,H,g,u,m,Q⟩) (fX (bC hg) OY) hq⟩;clear hk e hv hs hc QV OX E4 KJ W T OY V;obtain⟨J,E,M,K,O,I,A⟩:=v;cases l with
   |nil=>simp at hi
   |cons x l=>exact OZ ⟨a,b,c,d,q,H,g,u,m,Q⟩ G D J E M K O I A 9 0 0 [] [] [] 13 0 0 [] [] [] x l ZC _ (by simpa using hi) N Y bT
  rw[if_neg h];rw[show fS l v=false by simpa using h]at N;refine⟨hk _ _ ?_,cg (S:=⟨a,b,c,d,q,H,g,u,m,Q⟩) (fX (bC hg) (Ce Bi U P hls)) hq⟩;have Y:aH (.mk 13 0 0 [] l [] [])<=8589934593:=by simp only[aH,bp,aO,aay];omega
  clear hk e hv hs hc QV OX E4 KJ W T;obtain⟨J,E,M,K,O,I,A⟩:=v;cases l with
  |nil=>exact O0 ⟨a,b,c,d,q,H,g,u,m,Q⟩ G D J E M K O I A 9 0 0 [] [] [] 13 0 0 [] [] [] _ N bT
  |cons x l=>exact O1 ⟨a,b,c,d,q,H,g,u,m,Q⟩ G D J E M K O I A 9 0 0 [] [] [] 13 0 0 [] [] [] x l ZC _ N Y bT
 have e:aE 63 [] ⟨a,b,c,d,v::cD [y] :: .mk 13 0 0 [] l [] []::q,H,g,u,m,Q⟩=(if 24<=((if fS l v=true then l.take (cC l v)++l.drop (cC l v+1)else l)).length then((13,⟨a,b,c,d,q,H,g,u,m,Q⟩):MR)else aY ⟨a,b,c,d,q,H,g,u,m,Q⟩ [.mk 13 0 0 [] (((if fS l v=true then l.take (cC l v)++l.drop (cC l v+1)else l)).take (cC l v)++bh v y::((if fS l v=true then l.take (cC l v)++l.drop (cC l v+1)else l)).drop (cC l v)) [] []]):=by unfold aE;rw[LN];rfl
 have hsy:=hw.2;simp only[cD,aH,aI,bp,aO,aay]at hsy;have O2:=ld f1.2 hy;by_cases h:fS l v=true
 ·rw[if_pos h]at e;have hi:cC l v<l.length:=by
   unfold fS at h;cases hh:l[cC l v]? with
   |none=>rw[hh]at h;cases h
   |some x=>exact(List.getElem?_eq_some_iff.1 hh).1
  have hXl:(l.take (cC l v)++l.drop (cC l v+1)).length+1=l.length:=by rw[aaZ,afb,afr];omega
  have hXa:aL (l.take (cC l v)++l.drop (cC l v+1)) (.mk 11 [t1,t0])=true:=by rw[nU,E4.1,KJ.2];rfl
  have hXs:ej (l.take (cC l v)++l.drop (cC l v+1))=true:=by rw[rH,W.1,T.2];rfl
  have hXu:=RP C.1 C.2 l (cC l v) U P;have hsk:=TE C.1 C.2 f1.2.1 l U P h;have V:=RO C.1 C.2 f1.2.1 y _ hXa hXu hsk.2;rw[hsk.1]at V;have hXz:aI (l.take (cC l v)++l.drop (cC l v+1))<=2000000000:=by rw[nV];omega
  rw[if_neg ai]at e;rw[e];rw[h]at N;generalize hX:l.take (cC l v)++l.drop (cC l v+1)=X at *;have c1:=yD hXa (cC l v);have c2:=Dx hXs (cC l v);have c3:=yE X (cC l v);have OY:=Ce (t:=t1) (u:=t0) aa6 (show aL (X.take (cC l v)++bh v y::X.drop (cC l v)) _=true by rw[nU,c1.1,aL,O2.1,c1.2];rfl) V (by rw[rH,c2.1,ej,O2.2,c2.2];rfl);have Y:aH (.mk 13 0 0 [] (X.take (cC l v)++bh v y::X.drop (cC l v)) [] [])<=8589934593:=by simp only[bh,aH,nV,aI,bp,aO,aay];omega
  refine⟨hk _ _ ?_,cg (S:=⟨a,b,c,d,q,H,g,u,m,Q⟩) (fX (bC hg) OY) hq⟩;subst hX;clear hk e hv hs hc QV OX E4 KJ W T OY V c1 c2 c3 hXa hXs hXu hsk hXz O2;obtain⟨J,E,M,K,O,I,A⟩:=v;rcases l with _|⟨x,_|⟨x2,l⟩⟩
  simp at hi;have h0:cC [x] (.mk J E M K O I A)=0:=(by simpa using hi);rw[h0]at N Y ⊢;exact LP ⟨a,b,c,d,q,H,g,u,m,Q⟩ G D J E M K O I A 9 0 0 [] [] [] 13 0 0 [] [] [] x y N Y bT;exact LQ ⟨a,b,c,d,q,H,g,u,m,Q⟩ G D J E M K O I A 9 0 0 [] [] [] 13 0 0 [] [] [] x (x2::l) (by simp only[aag]at Bi ⊢;omega) y _ (by simpa using hi) cc (by simp only[aag]at Bi ⊢;omega) N Y bT
 rw[if_neg h]at e;have h':fS l v=false:=by simpa using h
 rw[h']at N;rw[e];by_cases h24:24<=l.length
 ·rw[if_pos h24];refine⟨hk _ _ ?_,.inr (.inr Z)⟩;clear hk e hv hs hc QV OX E4 KJ W T O2;obtain⟨J,E,M,K,O,I,A⟩:=v;cases l with
  |nil=>simp at h24
  |cons x l=>exact LR ⟨a,b,c,d,q,H,g,u,m,Q⟩ G D J E M K O I A 9 0 0 [] [] [] 13 0 0 [] [] [] x l ZC y _ (by simpa using h24) N bT
 rw[if_neg h24];have V:=RO C.1 C.2 f1.2.1 y l U P h';have OY:=Ce (t:=t1) (u:=t0) aa6 (show aL (l.take (cC l v)++bh v y::l.drop (cC l v)) _=true by rw[nU,E4.1,aL,O2.1,E4.2];rfl) V (by rw[rH,W.1,ej,O2.2,W.2];rfl);have Y:aH (.mk 13 0 0 [] (l.take (cC l v)++bh v y::l.drop (cC l v)) [] [])<=8589934593:=by simp only[bh,aH,nV,aI,bp,aO,aay];omega
 refine⟨hk _ _ ?_,cg (S:=⟨a,b,c,d,q,H,g,u,m,Q⟩) (fX (bC hg) OY) hq⟩;clear hk e hv hs hc QV OX E4 KJ W T OY V O2;obtain⟨J,E,M,K,O,I,A⟩:=v;cases l with
 |nil=>exact O3 ⟨a,b,c,d,q,H,g,u,m,Q⟩ G D J E M K O I A 9 0 0 [] [] [] 13 0 0 [] [] [] y N Y bT
 |cons x l=>exact O4 ⟨a,b,c,d,q,H,g,u,m,Q⟩ G D J E M K O I A 9 0 0 [] [] [] 13 0 0 [] [] [] x l ZC y _ (by simpa using hil) (by simpa using h24) N Y bT
def IZ(P:Int)(q:P=69\/P=70\/P=71\/P=72\/P=93\/P=94\/P=95)(S:bZ)(A:Int)(K:L UInt8)(M:L Nd)(W:aO M<=8589934593)(codes:L (L Ty->CR))(V s:L Ty)(r:L Ty×Bool)(hf:bP P M=some V)(C:ew s S.st)(I:s.length<=340)(G:r.1.all br=true)(Y:eZ P s=(r,0)):bg A K P M S/\bQ S r (aE P M S):=by
 rcases q with rfl|rfl|rfl|rfl|rfl|rfl|rfl
 exact Vf S A K M V s r hf C I G Y;exact Vg S A K M V s r hf C I G Y;exact Vh S A K M V s r hf C I G Y;exact Vi S A K M V s r hf C I G Y;exact Vj S A K M V s r hf C I G Y;exact Vk S A K M V s r hf C I G Y;exact Vm S A K M V s r hf C I G Y
def RQ(P:Int)(q:P=73\/P=74\/P=75\/P=76\/P=77\/P=78\/P=79\/P=80\/P=81\/P=82)(S:bZ)(A:Int)(K:L UInt8)(M:L Nd)(W:aO M<=8589934593)(codes:L (L Ty->CR))(V s:L Ty)(r:L Ty×Bool)(hf:bP P M=some V)(C:ew s S.st)(I:s.length<=340)(G:r.1.all br=true)(Y:j9 P V s=(r,0)):bg A K P M S/\bQ S r (aE P M S):=by
 rcases q with rfl|rfl|rfl|rfl|rfl|rfl|rfl|rfl|rfl|rfl
 exact Vn S A K M V s r hf C I G Y;exact O5 S A K M V s r hf C I G Y;exact O6 S A K M V s r hf C I G Y;exact O7 S A K M V s r hf C I G Y;exact Vo S A K M V s r hf C I G Y;exact Vp S A K M V s r hf C I G Y;exact YF S A K M V s r hf C I G Y;exact LS S A K M V s r hf C I G Y;exact RR S A K M V s r hf C I G Y;exact LU S A K M W V s r hf C I G Y
def O8(P:Int)(D:P=84\/P=85\/P=86\/P=87\/P=88\/P=89\/P=90\/P=91\/P=92)(S:bZ)(Y:qU S.self S.iY S.iZ S.balance=true)(q:0<=S.au/\S.au<=bJ)(A:Int)(K:L UInt8)(M:L Nd)(I:aO M<=8589934593)(codes:L (L Ty->CR))(V s:L Ty)(r:L Ty×Bool)(hf:bP P M=some V)(C:ew s S.st)(W:s.length<=340)(G:r.1.all br=true)(U:iI P V s=(r,0)):bg A K P M S/\bQ S r (aE P M S):=by
 rcases D with rfl|rfl|rfl|rfl|rfl|rfl|rfl|rfl|rfl
 exact LJ S Y q A K M I V s r hf C W G U;exact RB S Y q A K M I V s r hf C W G U;exact ON S Y q A K M I V s r hf C W G U;exact RF S Y q A K M I V s r hf C W G U;exact Hi S Y q A K M I V s r hf C W G U;exact Rz S Y q A K M I V s r hf C W G U;exact LF S Y q A K M I V s r hf C W G U;exact LH S Y q A K M I V s r hf C W G U;exact IT S Y q A K M I V s r hf C W G U
def O9(P:Int)(q:P=59\/P=61\/P=62\/P=63)(S:bZ)(A:Int)(K:L UInt8)(M:L Nd)(W:aO M<=8589934593)(codes:L (L Ty->CR))(V s:L Ty)(r:L Ty×Bool)(hf:bP P M=some V)(C:ew s S.st)(I:s.length<=340)(G:r.1.all br=true)(Y:iW P codes V s=(r,0)):bg A K P M S/\bQ S r (aE P M S):=by
 rcases q with rfl|rfl|rfl|rfl
 exact RH S A K M codes V s r hf C I G Y;exact OU S A K M codes V s r hf C I G Y;exact Ve S A K M codes V s r hf C I G Y;exact LO S A K M codes V s r hf C I G Y
def I0(P:Int)(q:P=46\/P=47\/P=48\/P=49\/P=50\/P=51\/P=53\/P=54\/P=56\/P=57)(S:bZ)(A:Int)(K:L UInt8)(M:L Nd)(W:aO M<=8589934593)(codes:L (L Ty->CR))(V s:L Ty)(r:L Ty×Bool)(hf:bP P M=some V)(C:ew s S.st)(I:s.length<=340)(G:r.1.all br=true)(Y:dU P codes V s=(r,0)):bg A K P M S/\bQ S r (aE P M S):=by
 rcases q with rfl|rfl|rfl|rfl|rfl|rfl|rfl|rfl|rfl|rfl
 exact RS S A K M codes V s r hf C I G Y;exact LW S A K M codes V s r hf C I G Y;exact Vq S A K M codes V s r hf C I G Y;exact Vr S A K M codes V s r hf C I G Y;exact RT S A K M codes V s r hf C I G Y;exact Pa S A K M codes V s r hf C I G Y;exact RU S A K M codes V s r hf C I G Y;exact RV S A K M codes V s r hf C I G Y;exact Vs S A K M codes V s r hf C I G Y;exact RG S A K M codes V s r hf C I G Y
mutual
def Hq:∀(t:Ty)(d n W Y m:Int),W<=d->Y<=n->fM t d n=(true,m)->fM t W Y=(true,m-n+Y)
 |.mk T M,d,n,W,Y,m,I,B,h=>by
  simp only[fM]at h ⊢;by_cases c:d>24\/n+1>300\/arity T≠M.length;simp_all;rw[if_neg c]at h;have K:¬(W>24\/Y+1>300\/arity T≠M.length):=by omega
  rw[if_neg K];cases e:eL M (d+1) (n+1)with
  |mk b V =>
   rw[e]at h;cases b with
   |false=>cases h
   |true =>
    have h2:=Eg M (d+1) (n+1) (W+1) (Y+1) V ai ai e;grind
def Eg:∀(l:L Ty)(d n W Y m:Int),W<=d->Y<=n->eL l d n=(true,m)->eL l W Y=(true,m-n+Y)
 |[],d,n,W,Y,m,I,B,h=>by simp only[eL]at h ⊢;simp_all
 |t::l,d,n,W,Y,m,I,B,h=>by
  simp only[eL]at h ⊢;cases e:fM t d n with
  |mk b V =>
   rw[e]at h;cases b with
   |false=>cases h
   |true =>
    have h2:=Hq t d n W Y V I B e;rw[h2];have U:=Eg l d V W (V-n+Y) m I ai h;grind
end
def Pb{t:Ty}{d n m:Int}(h:fM t d n=(true,m)):n<=299/\n<m:=by
 have h1:n<=299:=by obtain⟨T,M⟩:=t;simp only[fM]at h;grind
 have h2:=(uO t d n ai).1;simp_all
def Hr:∀{l:L Ty}{d n m:Int}{x:Ty},eL l d n=(true,m)->0<=n->x∈l->∃W Y,0<=W/\fM x d W=(true,Y)
 |t::l,d,n,m,x,h,hn,D=>by
  simp only[eL]at h;cases e:fM t d n with
  |mk b Y =>
   rw[e]at h;cases b with
   |false=>cases h
   |true =>
    rcases List.mem_cons.1 D with rfl|D
    grind;have:=(Pb e).2;exact Hr (l:=l) h ai D
def rI{T:Int}{M:L Ty}(h:br (.mk T M)=true):∀x∈M,br x=true:=by
 intro x D;unfold br at h;simp only[fM]at h;split at h;cases h;cases e:eL M (1+1) (0+1)with
 |mk b Y =>
  rw[e]at h;cases b with
  |false=>cases h
  |true =>
   obtain⟨W,P,h1,h2⟩:=Hr e ai D;have K:=Hq x _ W 1 0 P ai ai h2;unfold br;rw[K]
def RW{M:L Ty}(h:br (.mk 13 M)=true):br (.mk 11 M)=true:=by
 unfold br at h ⊢;simp only[fM]at h ⊢;split at h;cases h;rename_i c;have Y:arity 13=2:=rfl;have W:arity 11=2:=rfl;rw[Y]at c;rw[W,if_neg c];cases e:eL M (1+1) (0+1)with
 |mk b V =>
  rw[e]at h;cases b with
  |false=>cases h
  |true=>rfl
def Pc{Y n p:Int}{s:L UInt8}{k:Nat}{d W:Int}(I:W<=d)(h:gS Y n p s k d=0):gS Y n p s k W=0:=by unfold gS at h ⊢;omega
mutual
def RY:∀(n:Nd)(d Y:Int),Y<=d->eW n d=0->eW n Y=0
 |.mk W n p s M,d,Y,I,h=>by obtain⟨h1,h2⟩:=kf h;simp only[eW];rw[if_pos (Pc I h1)];exact yF M _ _ ai h2
def yF:∀(l:L Nd)(d Y:Int),Y<=d->dx l d=0->dx l Y=0
 |[],_,_,_,_=>rfl
 |x::l,d,Y,I,h=>by simp only[dx]at h ⊢;by_cases c:eW x d=0;rw[if_pos c]at h;rw[if_pos (RY x d Y I c)];exact yF l d Y I h;omega
end
def Hs:∀{l:L Nd}{x:Nd}{d:Int},dx l d=0->x∈l->eW x d=0
 |y::l,x,d,h,D=>by
  simp only[dx]at h;by_cases c:eW y d=0
  ·rw[if_pos c]at h;rcases List.mem_cons.1 D with rfl|D
   exact c;exact Hs h D
  omega
def J6:∀{l:L Nd}{x:Nd},x∈l->many x<=cP l
 |y::l,x,D=>by
  simp only[cP];rcases List.mem_cons.1 D with rfl|D
  omega;have:=J6 D;omega
def kj(code:L Nd):Prop:=dZ (.mk 3 0 0 [] code)=0
def zH{code:L Nd}:kj code↔dx code 2=0/\cP code<=299:=by unfold kj;rw[kH];simp only[many];constructor;rintro⟨h1,h2⟩;exact⟨(kf h1).2,ai⟩;rintro⟨h1,h2⟩;refine⟨?_,ai⟩;simp only[eW];exact h1
def nD{code:L Nd}(h:kj code):cP code<=299:=(zH.1 h).2
def A8{code:L Nd}(h:kj code):aO code<=60300:=by have:=A4 h;simp only[bD]at this;omega
def rJ{code:L Nd}{k N P:Int}{S:L UInt8}{M:L Nd}(h:kj code)(q:Nd.mk k N P S M∈code):kj M/\cP M+1<=cP code:=by obtain⟨h1,h2⟩:=zH.1 h;have K:=(kf (Hs h1 q)).2;have Y:=J6 q;simp only[many]at Y;exact⟨zH.2 ⟨yF _ _ _ ai K,ai⟩,Y⟩
def Nc{n:Nd}(h:dZ n=0):kj (cG n):=by obtain⟨k,N,P,S,M⟩:=n;obtain⟨h1,h2⟩:=kH.1 h;simp only[many]at h2;exact zH.2 ⟨(kf h1).2,by simp only[cG];omega⟩
def Eh(code:L Nd)(s O:L Ty)(f':Bool):Prop:=cz code (s,false)=((O,f'),0)
def FT(C:L Ty×Bool):List iR->L Ty->Prop
 |[],s=>C=(s,false)
 |F::t,s=>s.length+cP F.code<=340/\kj F.code/\F.pos<=F.code.length/\∃O f',Eh (F.code.drop F.pos) s O f'/\(f'=false ->
   (F.fin=0/\FT C t O) \/
   (F.fin=1/\F.aside.length<=1/\∃u,ew u F.aside.reverse/\FT C t (u++O)) \/
   (F.fin=2/\F.aside.length<=340/\∃V u,O=[V]/\ew u F.aside.reverse/\FT C t (V::u)) \/
   (F.fin=3/\∃e,(∀x∈F.aside,Fit e x)/\O.length+1+cP F.code<=340/\(∃H U,Eh F.code (e::O) H U/\(U=false->H=O))/\FT C t O) \/
   (F.fin=4/\∃a W,O=a::W/\dD a=2/\W.length+cP F.code<=340/\(∃H U,Eh F.code W H U/\(U=false->H=a::W))/\FT C t W))
def Z5(F:iR):Nat:=1+2*cP (F.code.drop F.pos)
def Ay:List iR->Nat
 |[]=>0
 |F::t=>Z5 F+Ay t
def Ht:∀t:List iR,t.length<=Ay t
 |[]=>aaV _
 |F::t=>by have:=Ht t;simp only[aag,Ay,Z5];omega
def wj{a b:CR}{r:L Ty×Bool}(h:cZ a b=(r,0)):a.2=0/\(a.1.2=false->r=a.1):=by unfold cZ at h;split at h;rename_i c;exact absurd (aeM Prod.snd h) c;rename_i u;simp at u;refine⟨u,λhf=>?_⟩;split at h;rename_i c;exact absurd (aeM Prod.snd h) c;rw[if_neg (by rw[hf];decide)]at h;split at h;simp_all;cases h
def wo{a b:CR}{r:L Ty×Bool}(h:cZ a b=(r,0)):b.2=0/\(b.1.2=false->r=b.1):=by unfold cZ at h;split at h;rename_i c;exact absurd (aeM Prod.snd h) c;split at h;rename_i c;exact absurd (aeM Prod.snd h) c;rename_i u K;simp at K;refine⟨K,λhf=>?_⟩;by_cases T:a.1.2=true;grind;rw[if_neg T]at h;split at h;rename_i c4;cases h;have e:=(l9 _ _).1 (c4.resolve_left (by rw[hf];decide));grind;cases h
def CI{code:L Nd}{s:L Ty}(h:(cz code (s,false)).2=0):Eh code s (cz code (s,false)).1.1 (cz code (s,false)).1.2:=by unfold Eh;rw[<- h]
def LX{C:L Ty×Bool}{H:List iR}{c:L Nd}{K:L Ty}{r:L Ty×Bool}(U:(cz c (K,false)).2=0)(B:(cz c (K,false)).1.2=false->r=(cz c (K,false)).1)(I:K.length+cP c<=340)(q:kj c)
  (h:r.2=false->FT C H r.1):FT C (⟨c,0,0,[]⟩::H) K:=by
 refine⟨I,q,aeW _,(cz c (K,false)).1.1,(cz c (K,false)).1.2,CI U,λhf => .inl ⟨Z,?_⟩⟩;simp_all
def ad1(C:L Ty×Bool)(S:bZ)(r:L Ty×Bool)(o:MR):Prop :=
 o.1=0/\∃F K,o.2.fr=F::S.fr/\kj F.code/\ew K o.2.st/\((r.2=false->FT C S.fr r.1)->FT C (F::S.fr) K)
def Comes(C:L Ty×Bool)(S:bZ)(r:L Ty×Bool)(o:MR):Prop:=bQ S r o\/ad1 C S r o\/aco o
def LY{P:Int}{M:L Nd}{V:L Ty}(h:bP P M=some V)(C:gH P=[99]):∃p q r c,M=[.mk 3 p q r c]/\V=[]:=by
 obtain⟨h1,h2⟩:=lu h;rw[C]at h1 h2;rcases M with _|⟨x,_|⟨y,l⟩⟩
 grind;obtain⟨Y,N,p,q,xs⟩:=x;have K:(if Y=3 then some []else none)=some V:=h2;simp_all;grind
def Fl{P:Int}{M:L Nd}{V:L Ty}(h:bP P M=some V)(C:gH P=[99,99]):∃p q r c U T O c',M=[.mk 3 p q r c,.mk 3 U T O c']/\V=[]:=by
 obtain⟨h1,h2⟩:=lu h;rw[C]at h1 h2;rcases M with _|⟨x,_|⟨y,_|⟨z,l⟩⟩⟩
 grind;grind;obtain⟨W,N,p,q,xs⟩:=x;obtain⟨Y,Q,U,T,S⟩:=y;have K:(if W=3 then(if Y=3 then some []else none)else none)=some V:=h2;simp_all;grind
def YG{P:Int}{M:L Nd}{V:L Ty}(h:bP P M=some V)(C:gH P=[116,116,99]):∃x y p q r c,M=[x,y,.mk 3 p q r c]/\(aJ x).2=0/\(aJ y).2=0/\V=[(aJ x).1,(aJ y).1]:=by
 obtain⟨h1,h2⟩:=lu h;rw[C]at h1 h2;rcases M with _|⟨x,_|⟨y,_|⟨z,_|⟨J,l⟩⟩⟩⟩
 grind;grind;grind;obtain⟨W,N,p,q,xs⟩:=x;obtain⟨Y,S,Q,O,U⟩:=y;obtain⟨T,I,E,H,K⟩:=z;have G:(if(aJ (.mk W N p q xs)).2=0 then(if(aJ (.mk Y S Q O U)).2=0 then(if T=3 then some ([]++[(aJ (.mk W N p q xs)).1]++[(aJ (.mk Y S Q O U)).1])else none)else none)else none)=some V:=h2;grind;grind
def LZ:bY 52=1:=by decide +kernel
def TG:bY 55=1:=by decide +kernel
def L3:bY 58=1:=by decide +kernel
def aa8:bY 60=1:=by decide +kernel
def TH:bY 64=1:=by decide +kernel
def aa9:bY 65=1:=by decide +kernel
def aba:bY 66=0:=by decide +kernel
def abb:bY 67=2:=by decide +kernel
def abc:bY 68=1:=by decide +kernel
def Hu:∀{l:L Vl}{x:Vl},ej l=true->x∈l->eU x=true
 |y::l,x,h,D=>by
  simp only[ej,aaN]at h;rcases List.mem_cons.1 D with rfl|D
  grind;exact Hu h.2 D
def abd{v:Vl}{t u:Ty}(h:bE v (.mk 14 [t,u])=true)(C:eU v=true):∃code,v = .mk 14 0 0 [] [] [t,u] code/\kj code/\(cz code ([t],false)).2=0/\((cz code ([t],false)).1.2=false->(cz code ([t],false)).1.1=[u])/\j8 code=false:=by
 obtain⟨k,n,a,s,M,V,code⟩:=v;obtain⟨A,S,W⟩:=ja h;simp only[dD]at A;subst A;have U:V.length=2/\a=0/\n=0/\s=[]/\M.length=0:=by simpa[cA]using S
 obtain⟨T,rfl,rfl,rfl,Q⟩:=U;obtain rfl:=List.length_eq_zero_iff.1 Q;rcases V with _|⟨P,_|⟨O,_|⟨H,q⟩⟩⟩
 omega;simp_all
 ·have h2:(cV t P&&cV u O)=true:=by have I:=h;unfold bE at I;simp only[cA,dD,aU,aV]at I;simpa using I
  rw[aaN]at h2;obtain rfl:=(gq _ _).1 h2.1;obtain rfl:=(gq _ _).1 h2.2;rw[Gc 14 0 0 [] [] t u code rfl]at C;simp at C;obtain⟨⟨Y,K⟩,N⟩:=C;obtain⟨g1,_,_,_,J⟩:=vH Y;rw[J]at Y K;simp only[cG]at Y K;refine⟨code,Z,g1,Y,λhf=>?_,N⟩;rcases K with K|K
  grind;exact(l9 _ _).1 K
 simp_all
end Go.Proofs
