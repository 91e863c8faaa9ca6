/- Package run: -/
import Derived.Test.YtdnpapgijbhofaaGreatDoorRunAB
set_option linter.defProp false
set_option linter.unusedVariables false
set_option linter.unusedSimpArgs false
namespace Go.Proofs
open Go.cM
def AW{v:Vl}{t u:Ty}(h:bE v (.mk 13 [t,u])=true)(V:eC v=true):∃l,v = .mk 13 0 0 [] l [] []/\l.length<=24/\aP l (.mk 11 [t,u])=true/\vD l=true/\eg l=true:=by
 obtain⟨k,n,a,s,J,Y,W⟩:=v;obtain⟨D,q,_⟩:=kQ h;simp only[bM]at D;subst D;simp[cq]at q;simp[bE,cq,bM,aD,aq]at h;obtain⟨rfl,rfl,rfl,rfl⟩:=q;simp[eC]at V;obtain⟨_,⟨⟨h1,h2⟩,K⟩,U⟩:=h;exact⟨J,by rw[h1],h2,K,U,V⟩
def xP{l:L Vl}{t u:Ty}(B:l.length<=24)(h:aP l (.mk 11 [t,u])=true)(H:vD l=true)(V:eg l=true):bE (.mk 13 0 0 [] l [] []) (.mk 13 [t,u])=true/\eC (.mk 13 0 0 [] l [] [])=true:=by simp[bE,cq,bM,aD,aq,eC,h,V,B,H]
def Tg{P:Int}{J:L Nd}{Y:L Ty}(h:bJ P J=some Y)(O:fG P=[116,116]):∃x y,J=[x,y]/\(aW x).2=0/\(aW y).2=0/\Y=[(aW x).1,(aW y).1]:=by
 obtain⟨h1,h2⟩:=jk h;rw[O]at h1 h2;rcases J with _|⟨x,_|⟨y,_|⟨z,r⟩⟩⟩
 ·simp at h1
 ·simp at h1
 ·obtain⟨V,N,p,q,xs⟩:=x;obtain⟨W,T,S,Q,U⟩:=y;have K:(if(aW (.mk V N p q xs)).2=0 then(if(aW (.mk W T S Q U)).2=0 then some ([]++[(aW (.mk V N p q xs)).1]++[(aW (.mk W T S Q U)).1])else none)else none)=some Y:=h2;split at K
  ·grind
  ·cases K
 ·simp at h1
def Mx:bW 57=2:=by decide +kernel
def My:bW 59=1:=by decide +kernel
def Mz:bW 61=0:=by decide +kernel
def K4(S:b9)(T:Int)(P:L UInt8)(J:L Nd)(V:L (L Ty->CR))(Y s:L Ty)(r:L Ty×Bool)(hf:bJ 57 J=some Y)(U:dH s S.st)(hl:s.length<=340)(hg:r.1.all br=true)(A:aV 57 V Y s=(r,0)):bf T P 57 J S/\bK S r (aH 57 J S):=by
 obtain⟨a,b,c,d,st,H,g,u,m,G⟩:=S;obtain⟨rfl,rfl⟩:=cC hf cc;have I:=bF U;simp only at U I;rcases s with _|⟨O,_|⟨t2,s⟩⟩
 ·cases A
 ·cases A
 obtain⟨v,q0,rfl,E,qo⟩:=bh U;obtain⟨w,q,rfl,D,hq⟩:=bh qo;have f1:=cN E.1;have p:=cN D.1;obtain⟨Q,C⟩:=t2;simp only[aac]at I hl;have N:(if Q=10/\cP O (aD (.mk Q C) 0)=true then dX (.mk Q C::s)else aM 5)=(r,0):=A;split at N;rotate_left
 ·cases N
 rename_i c1;cases N;obtain⟨rfl,c2⟩:=c1;obtain⟨t,rfl,Mw⟩:=eN (cG p.1) cc;have et:O=t:=(fS _ _).1 c2;subst et;obtain⟨l,rfl,wK,M,K⟩:=xQ p.2.1 p.2.2;have hsz:=E.2;have XL:=D.2;simp only[aO,bg,aS,aad]at XL;unfold bf;have e:aH 57 [] ⟨a,b,c,d,v :: .mk 10 0 0 [] l [] []::q,H,g,u,m,G⟩=(if 24<=l.length then(13,⟨a,b,c,d,q,H,g,u,m,G⟩)else bp ⟨a,b,c,d,q,H,g,u,m,G⟩ [.mk 10 0 0 [] (v::l) [] []]):=by unfold aH;rw[Mx];rfl
 rw[e];have pG:=f1.2;have B:aP (v::l) O=true:=by simp[aP,pG.1,M]
 have Z0:eg (v::l)=true:=by simp[eg,pG.2,K]
 have pE:aO (.mk 10 0 0 [] (v::l) [] [])<=8589934593:=by simp only[aO,aK,bg,aS,aad];omega
 have hk:∀(e:Int)(S':b9),cz 137 ⟨a,b,c,d,q,H,g,u,m,G⟩ [.c (aY (.mk 2 T 57 P [])),.c (.sl 7 (aa [v,.mk 10 0 0 [] l [] []]))] (aE e) S'->cz 109 ⟨a,b,c,d,v :: .mk 10 0 0 [] l [] []::q,H,g,u,m,G⟩ [.c (aY (.mk 2 T 57 P []))] (aE e) S':=λe S' h =>
  oY _ _ 2 T 57 P _ [_,_] q _ cc (by rw[Mx];rfl) (by show List.length (v::Vl.mk 10 0 0 [] l [] []::q)<=_;simp only[aac];omega) h
 obtain⟨k1,n1,a1,s1,W,af,az⟩:=v;by_cases h:24<=l.length
 ·rw[if_pos h];exact⟨hk _ _ (IN ⟨a,b,c,d,q,H,g,u,m,G⟩ T P k1 n1 a1 s1 W af az 10 0 0 [] l [] [] h c9),.inr (.inr Z)⟩
 ·rw[if_neg h];exact⟨hk _ _ (IP ⟨a,b,c,d,q,H,g,u,m,G⟩ T P k1 n1 a1 s1 W af az 10 0 0 [] l [] [] h pE c9),bX (S:=⟨a,b,c,d,q,H,g,u,m,G⟩) (eW (bz hg) (CB fc B Z0)) hq⟩
def K5(S:b9)(Q:Int)(P:L UInt8)(J:L Nd)(V:L (L Ty->CR))(Y s:L Ty)(r:L Ty×Bool)(hf:bJ 59 J=some Y)(U:dH s S.st)(hl:s.length<=340)(hg:r.1.all br=true)(A:cH 59 V Y s=(r,0)):bf Q P 59 J S/\bK S r (aH 59 J S):=by
 obtain⟨a,b,c,d,st,H,g,u,m,G⟩:=S;obtain⟨rfl,rfl⟩:=cC hf cc;have K:=bF U;simp only at U K;cases s with
 |nil=>cases A
 |cons t s =>
 obtain⟨v,q,rfl,B,hq⟩:=bh U;have M:=cN B.1;obtain⟨T,ts⟩:=t;simp only[aac]at K hl;have O:(if T=6\/T=10\/T=13 then dX (.mk 4 []::s)else aM 5)=(r,0):=A;split at O;rotate_left
 ·cases O
 rename_i c1;cases O;have hb:(vS v).length+(fh v).length<=200:=by
  rcases c1 with rfl|rfl|rfl
  ·obtain⟨N,rfl,g1⟩:=uY M.2.1;simpa[vS,fh]using g1
  ·obtain⟨t,rfl,_⟩:=eN (cG M.1) cc;obtain⟨l,rfl,wK,_,_⟩:=xQ M.2.1 M.2.2;simp[vS,fh];omega
  ·obtain⟨t,t',rfl,_,_⟩:=eD (cG M.1) cc;obtain⟨l,rfl,wK,_,_,_⟩:=AW M.2.1 M.2.2;simp[vS,fh];omega
 unfold bf;have e:aH 59 [] ⟨a,b,c,d,v::q,H,g,u,m,G⟩=bp ⟨a,b,c,d,q,H,g,u,m,G⟩ [aL 4 (((vS v).length+(fh v).length:Nat):Int)]:=by unfold aH;rw[My];rfl
 rw[e];clear B M U A;obtain⟨C,I,E,N,W,D,p⟩:=v;simp only[vS,fh]at hb ⊢;exact⟨oY _ _ 2 Q 59 P _ [_] q _ cc (by rw[My];rfl) (by show List.length (Vl.mk C I E N W D p::q)<=_;simp only[aac];omega) (K6 ⟨a,b,c,d,q,H,g,u,m,G⟩ Q P C I E N W D p bn c9),bX (S:=⟨a,b,c,d,q,H,g,u,m,G⟩) (eW (bz hg) (iq cc j0 (λ_=>by omega))) hq⟩
def IQ(S:b9)(T:Int)(P:L UInt8)(J:L Nd)(W:L (L Ty->CR))(Y s:L Ty)(r:L Ty×Bool)(hf:bJ 61 J=some Y)(V:dH s S.st)(B:s.length<=340)(p:r.1.all br=true)(A:cH 61 W Y s=(r,0)):bf T P 61 J S/\bK S r (aH 61 J S):=by
 obtain⟨a,b,c,d,q,H,g,u,m,G⟩:=S;obtain⟨x,y,rfl,I,O,rfl⟩:=Tg hf cc;have Q:=bF V;simp only at V Q;have U:(if fq (aW x).1=true then dX (.mk 13 [(aW x).1,(aW y).1]::s)else aM 5)=(r,0):=A;split at U;rotate_left
 ·cases U
 cases U;unfold bf;have e:aH 61 [x,y] ⟨a,b,c,d,q,H,g,u,m,G⟩=bp ⟨a,b,c,d,q,H,g,u,m,G⟩ [.mk 13 0 0 [] [] [] []]:=by unfold aH;rw[Mz];rfl
 rw[e];exact⟨oY _ _ 2 T 61 P _ [] q _ cc (by rw[Mz];rfl) c9 (IS ⟨a,b,c,d,q,H,g,u,m,G⟩ T P x y c9),bX (S:=⟨a,b,c,d,q,H,g,u,m,G⟩) (eW (bz p) (xP cc Z Z Z)) V⟩
def mV{x:Vl}{t u:Ty}(h:bE x (.mk 11 [t,u])=true):∃y z,x=bt y z/\bE y t=true/\bE z u=true:=by
 obtain⟨k,n,a,s,J,Y,W⟩:=x;obtain⟨D,q,_⟩:=kQ h;simp only[bM]at D;subst D;simp[cq]at q;simp[bE,cq,bM,aq]at h;obtain⟨rfl,rfl,rfl,rfl⟩:=q;rcases J with _|⟨x,_|⟨y,_|⟨z,r⟩⟩⟩
 ·simp at h
 ·simp at h
 ·simp[cV]at h;exact⟨x,y,by rw[h.1];rfl,h.2.1,h.2.2⟩
 ·simp at h
def uZ(y z:Vl):kC (bt y z)=y:=rfl
def EF{t:Ty}(A:fq t=true)(Y:fV t=false){a b c:Vl}(h1:bE a t=true)(h2:bE b t=true)(K:bE c t=true)(u:dj a b<0)(W:dj b c<0):dj a c<0:=by
 obtain⟨_,_,_,_,g⟩:=xR a b c t A Y h1 h2 K;have:=g.1 bn bn;omega
def K7{t u:Ty}(A:fq t=true)(U:fV t=false):∀(l:L Vl)(x:Vl),aP (x::l) (.mk 11 [t,u])=true->vD (x::l)=true->∀y∈l,dj (kC x) (kC y)<0
 |[],x,_,_,y,J=>by simp at J
 |z::r,x,hA,hu,y,J=>by
  simp only[aP,aal]at hA;simp only[vD,aal,Z5]at hu;rcases List.mem_cons.1 J with rfl|Y
  ·exact hu.1
  ·have O:=K7 A U r z (by simp only[aP,aal];exact hA.2) (by simpa[vD]using hu.2) y Y;obtain⟨M,T,rfl,I,_⟩:=mV hA.1;obtain⟨S,Q,rfl,K,_⟩:=mV hA.2.1;have W:=(eR (.mk 11 [t,u]) r).1 hA.2.2 y Y;obtain⟨C,q,rfl,V,_⟩:=mV W;exact EF A U I K V hu.1 O
def MA{t u:Ty}(A:fq t=true)(Y:fV t=false){k:Vl}(D:bE k t=true):∀(l:L Vl),aP l (.mk 11 [t,u])=true->vD l=true->∀(i:Nat) x,bY l k<=i->l[i]?=some x->¬dj (kC x) k<0
 |[],_,_,i,x,_,h=>by simp at h
 |z::l,hA,hu,i,x,hi,h=>by
  have W:bE z (.mk 11 [t,u])=true/\aP l (.mk 11 [t,u])=true:=by simpa[aP]using hA
  have T:vD l=true:=by
   cases l with
   |nil=>rfl
   |cons y r=>simp only[vD,aal]at hu;simpa[vD]using hu.2
  by_cases K:dj (kC z) k<0
  ·simp only[bY,K,if_true]at hi;cases i with
   |zero=>omega
   |succ j=>exact MA A Y D l W.2 T j x bn q6
  ·cases i with
   |zero=>simp at h;subst h;exact K
   |succ j =>
    have U:=aaA (show l[j]?=some x by simpa using h);have E:=K7 A Y l z hA hu x U;obtain⟨Q,P,rfl,S,_⟩:=mV W.1;obtain⟨M,O,rfl,V,_⟩:=mV ((eR (.mk 11 [t,u]) l).1 W.2 x U);intro I;exact K (EF A Y S V D E I)
def CC{l:L Vl}{t u:Ty}{k:Vl}(p:fq t=true)(A:fV t=false)(T:aP l (.mk 11 [t,u])=true)(H:vD l=true)(D:bE k t=true)(B:l.length<=24)(V:aK l<=1000000000):aj 158 [.sl 7 (aa l),bO k] (.gb [aE (bY l k:Nat),.bool (eE l k)]):=by
 refine Ga l k bn (λx I=>?_) (MA p A D l T H);obtain⟨y,z,rfl,J,_⟩:=mV ((eR (.mk 11 [t,u]) l).1 T x I);have h1:=ee I;have h2:aO y<=aO (bt y z):=by simp only[bt,aO,aK];omega
 exact DI (bt y z) k y t Z (mW y k t A J D bn)
def MB:bW 62=2:=by decide +kernel
def MD{t u:Ty}(h:br (.mk 13 [t,u])=true):fq t=true/\fV t=false:=by
 have h1:=K8 h;simp only[IT,aal]at h1;have h2:jE [t,u]=true:=by simpa using h1.1
 exact⟨by simpa[jE]using h2,di (gT (lq h)).2 (show t∈aq (.mk 13 [t,u])by simp[aq])⟩
def N8(S:b9)(T:Int)(P:L UInt8)(J:L Nd)(V:L (L Ty->CR))(W s:L Ty)(r:L Ty×Bool)(hf:bJ 62 J=some W)(B:dH s S.st)(hl:s.length<=340)(hg:r.1.all br=true)(A:cH 62 V W s=(r,0)):bf T P 62 J S/\bK S r (aH 62 J S):=by
 obtain⟨a,b,c,d,st,H,g,u,m,G⟩:=S;obtain⟨rfl,rfl⟩:=cC hf cc;have eu:=bF B;simp only at B eu;rcases s with _|⟨t1,_|⟨t2,s⟩⟩
 ·cases A
 ·cases A
 obtain⟨v,q0,rfl,hv,qo⟩:=bh B;obtain⟨w,q,rfl,hw,hq⟩:=bh qo;have f1:=cN hv.1;have p:=cN hw.1;obtain⟨Q,AP⟩:=t2;simp only[aac]at eu hl;have dh:(if Q=13/\cP t1 (aD (.mk Q AP) 0)=true/\kH (aD (.mk Q AP) 1)=true then dX (.mk 9 [aD (.mk Q AP) 1]::s)else aM 5)=(r,0):=A;split at dh;rotate_left
 ·cases dh
 rename_i c1;obtain⟨rfl,c2,_⟩:=c1;obtain⟨t,t',rfl,Mw,R9⟩:=eD (cG p.1) cc;cases dh;have et:t1=t:=(fS _ _).1 c2;subst et;obtain⟨l,rfl,wK,U,Th,hls⟩:=AW p.2.1 p.2.2;have XL:=hw.2;simp only[aO,bg,aS,aad]at XL;have K9:=MD p.1;have N:=CC K9.1 K9.2 U Th f1.2.1 wK bn;unfold bf;have e:aH 62 [] ⟨a,b,c,d,v :: .mk 13 0 0 [] l [] []::q,H,g,u,m,G⟩=(if eE l v=true then bp ⟨a,b,c,d,q,H,g,u,m,G⟩ [cw [lV (fh (lV l (bY l v))) 1]]else bp ⟨a,b,c,d,q,H,g,u,m,G⟩ [cw []]):=by unfold aH;rw[MB];rfl
 rw[e];have hk:∀(e:Int)(S':b9),cz 137 ⟨a,b,c,d,q,H,g,u,m,G⟩ [.c (aY (.mk 2 T 62 P [])),.c (.sl 7 (aa [v,.mk 13 0 0 [] l [] []]))] (aE e) S'->cz 109 ⟨a,b,c,d,v :: .mk 13 0 0 [] l [] []::q,H,g,u,m,G⟩ [.c (aY (.mk 2 T 62 P []))] (aE e) S':=λe S' h =>
  oY _ _ 2 T 62 P _ [_,_] q _ cc (by rw[MB];rfl) (by show List.length (v::Vl.mk 13 0 0 [] l [] []::q)<=_;simp only[aac];omega) h
 by_cases h:eE l v=true
 ·rw[if_pos h];have I:∃x,l[bY l v]?=some x:=by
   unfold eE at h;cases hh:l[bY l v]? with
   |none=>rw[hh]at h;cases h
   |some x=>exact⟨x,Z⟩
  obtain⟨x,I⟩:=I;have V9:=aaA I;obtain⟨y,z,rfl,hy,Pg⟩:=mV ((eR _ l).1 U x V9);rw[h]at N;rw[QG I,show lV (fh (bt y z)) 1=z from rfl];have Z0:eC z=true:=by
   have:∀{l:L Vl}{x:Vl},eg l=true->x∈l->eC x=true:=by
    intro l
    induction l with
    |nil=>intro x _ h;simp at h
    |cons y l ih =>
     intro x h I;simp only[eg,aal]at h;rcases List.mem_cons.1 I with rfl|I
     ·exact h.1
     ·exact ih h.2 I
   have h1:=this hls V9;simp[bt,eC,eg]at h1;exact h1.2
  have G9:=ee V9;have R1:aO z<=aO (bt y z):=by simp only[bt,aO,aK];omega
  obtain⟨C,O,M,K,Y,E,D⟩:=v;exact⟨hk _ _ (La ⟨a,b,c,d,q,H,g,u,m,G⟩ T P C O M K Y E D 13 0 0 [] l [] [] (bY l (.mk C O M K Y E D)) N y y z [] 11 0 0 [] [] I bn c9),bX (S:=⟨a,b,c,d,q,H,g,u,m,G⟩) (eW (bz hg) (hD ⟨Pg,Z0⟩)) hq⟩
 ·rw[if_neg h];rw[show eE l v=false by simpa using h]at N;obtain⟨C,O,M,K,Y,E,D⟩:=v;exact⟨hk _ _ (Lb ⟨a,b,c,d,q,H,g,u,m,G⟩ T P C O M K Y E D 13 0 0 [] l [] [] _ N c9),bX (S:=⟨a,b,c,d,q,H,g,u,m,G⟩) (eW (bz hg) lU) hq⟩
def Ri{t:Ty}(A:fq t=true)(Y:fV t=false){a b:Vl}(h1:bE a t=true)(h2:bE b t=true)(h:¬dj a b<0)(p:dj a b≠0):dj b a<0:=by
 obtain⟨g,_⟩:=xR a b b t A Y h1 h2 h2;omega
def qO{x y:Vl}{l:L Vl}(h:dj (kC x) (kC y)<0)(H:vD (y::l)=true):vD (x::y::l)=true:=by
 rw[vD];simp only[aal,Z5];exact⟨h,H⟩
def wB{x y:Vl}{l:L Vl}(H:vD (x::y::l)=true):dj (kC x) (kC y)<0/\vD (y::l)=true:=by
 rw[vD]at H;simpa only[aal,Z5]using H
def Lc{t u:Ty}(A:fq t=true)(Q:fV t=false){k:Vl}(D:bE k t=true)(y:Vl):∀(l:L Vl),aP l (.mk 11 [t,u])=true->vD l=true->eE l k=false->vD (l.take (bY l k)++bt k y::l.drop (bY l k))=true
 |[],_,_,_=>rfl
 |x::l,hA,hu,hf=>by
  have P:bE x (.mk 11 [t,u])=true/\aP l (.mk 11 [t,u])=true:=by simpa[aP]using hA
  obtain⟨I,Y,rfl,W,_⟩:=mV P.1;by_cases K:dj I k<0
  ·have V:bY (bt I Y::l) k=bY l k+1:=by simp only[bY,uZ,K,if_true]
   have U:eE l k=false:=by
    unfold eE at hf ⊢;rw[V]at hf;simpa using hf
   rw[V];cases l with
   |nil=>exact qO (show dj I k<0 from K) Z
   |cons z r =>
    have O:=Lc A Q D y (z::r) P.2 (wB hu).2 U;have T:=(wB hu).1;show vD (bt I Y::((z::r).take (bY (z::r) k)++bt k y::(z::r).drop (bY (z::r) k)))=true;generalize bY (z::r) k=i at O;cases i with
    |zero=>exact qO (show dj I k<0 from K) O
    |succ j=>exact qO T O
  ·have V:bY (bt I Y::l) k=0:=by simp only[bY,uZ,K,abg]
   rw[V];have p:dj I k≠0:=by
    unfold eE at hf;rw[V]at hf;have S:decide (dj I k=0)=false:=hf;exact of_decide_eq_false S
   exact qO (show dj k I<0 from Ri A Q W D K p) hu
def Ld{t u:Ty}(A:fq t=true)(Y:fV t=false):∀(l:L Vl)(i:Nat),aP l (.mk 11 [t,u])=true->vD l=true->vD (l.take i++l.drop (i+1))=true
 |[],i,_,_=>by simp[vD]
 |x::l,0,hA,hu=>by
  cases l with
  |nil=>rfl
  |cons z r=>exact(wB hu).2
 |x::l,i+1,hA,hu=>by
  have W:bE x (.mk 11 [t,u])=true/\aP l (.mk 11 [t,u])=true:=by simpa[aP]using hA
  cases l with
  |nil=>simp[vD]
  |cons z r =>
   have O:=Ld A Y (z::r) i W.2 (wB hu).2;show vD (x::((z::r).take i++(z::r).drop (i+1)))=true;cases i with
   |zero =>
    cases r with
    |nil=>rfl
    |cons w r=>exact qO (K7 A Y (z::w::r) x hA hu w ek) O
   |succ j=>exact qO (wB hu).1 O
def ME{t u:Ty}(A:fq t=true)(S:fV t=false){k:Vl}(D:bE k t=true):∀(l:L Vl),aP l (.mk 11 [t,u])=true->vD l=true->eE l k=true->bY (l.take (bY l k)++l.drop (bY l k+1)) k=bY l k/\eE (l.take (bY l k)++l.drop (bY l k+1)) k=false
 |[],_,_,hf=>by simp[eE]at hf
 |x::l,hA,hu,hf=>by
  have Q:bE x (.mk 11 [t,u])=true/\aP l (.mk 11 [t,u])=true:=by simpa[aP]using hA
  obtain⟨I,W,rfl,U,_⟩:=mV Q.1;have N:vD l=true:=by
   cases l with
   |nil=>rfl
   |cons z r=>exact(wB hu).2
  by_cases K:dj I k<0
  ·have Y:∀m:L Vl,bY (bt I W::m) k=bY m k+1:=λm=>by simp only[bY,uZ,K,if_true]
   have T:∀m:L Vl,eE (bt I W::m) k=eE m k:=λm=>by unfold eE;rw[Y];rfl
   rw[T]at hf;have O:=ME A S D l Q.2 N hf;rw[Y];show bY (bt I W::(l.take (bY l k)++l.drop (bY l k+1))) k=bY l k+1/\eE (bt I W::(l.take (bY l k)++l.drop (bY l k+1))) k=false;rw[Y,T];exact⟨by rw[O.1],O.2⟩
  ·have Y:bY (bt I W::l) k=0:=by simp only[bY,uZ,K,abg]
   unfold eE at hf;rw[Y]at hf;have p:dj I k=0:=Zo hf;have M:I=k:=(xR I k k t A S U D D).zero.1 p;subst M;rw[Y];show bY l I=0/\eE l I=false;cases l with
   |nil=>exact⟨Z,Z⟩
   |cons z r =>
    obtain⟨V,J,rfl,P,_⟩:=mV ((eR _ _).1 Q.2 z ek);have E:dj I V<0:=(wB hu).1;have g:=xR I V V t A S U P P;have H:dj V I>0:=by have:=g.neg;omega
    have h1:bY (bt V J::r) I=0:=by exact if_neg (show ¬dj V I<0 by omega)
    refine⟨h1,?_⟩;unfold eE;rw[h1];show decide (dj V I=0)=false;exact aax bn
def lB{t:Ty}:∀(a b:L Vl),aP (a++b) t=(aP a t&&aP b t)
 |[],b=>by simp[aP]
 |x::a,b=>by simp only[Zy,aP,lB a b,acC]
def od:∀(a b:L Vl),eg (a++b)=(eg a&&eg b)
 |[],b=>by simp[eg]
 |x::a,b=>by simp only[Zy,eg,od a b,acC]
def lC:∀(a b:L Vl),aK (a++b)=aK a+aK b
 |[],b=>by simp[aK]
 |x::a,b=>by simp only[Zy,aK,lC a b];omega
def tW{t:Ty}{l:L Vl}(h:aP l t=true)(i:Nat):aP (l.take i) t=true/\aP (l.drop i) t=true:=by
 have e:=lB (t:=t) (l.take i) (l.drop i);rw[aaY,h]at e;simpa using e.symm
def zi{l:L Vl}(h:eg l=true)(i:Nat):eg (l.take i)=true/\eg (l.drop i)=true:=by
 have e:=od (l.take i) (l.drop i);rw[aaY,h]at e;simpa using e.symm
def tX(l:L Vl)(i:Nat):aK (l.take i)+aK (l.drop i)=aK l:=by
 have e:=lC (l.take i) (l.drop i);rw[aaY]at e;omega
def Gb:bW 63=3:=by decide +kernel
def Gc(S:b9)(N:Int)(M:L UInt8)(D:L Nd)(codes:L (L Ty->CR))(I s:L Ty)(r:L Ty×Bool)(hf:bJ 63 D=some I)(hs:dH s S.st)(hl:s.length<=340)(hg:r.1.all br=true)(A:cH 63 codes I s=(r,0)):bf N M 63 D S/\bK S r (aH 63 D S):=by
 obtain⟨a,b,c,d,st,H,g,u,m,G⟩:=S;obtain⟨rfl,rfl⟩:=cC hf cc;have eu:=bF hs;simp only at hs eu;rcases s with _|⟨t1,_|⟨t2,_|⟨t3,s⟩⟩⟩
 ·cases A
 ·cases A
 ·cases A
 obtain⟨v,q0,rfl,hv,qo⟩:=bh hs;obtain⟨w,q1,rfl,hw,Vf⟩:=bh qo;obtain⟨z,q,rfl,hz,hq⟩:=bh Vf;have f1:=cN hv.1;have f2:=cN hw.1;have f3:=cN hz.1;obtain⟨T2,AP⟩:=t2;obtain⟨T3,YE⟩:=t3;simp only[aac]at eu hl;have dh:(if T2=9/\T3=13/\cP t1 (aD (.mk T3 YE) 0)=true/\cP (aD (.mk T2 AP) 0) (aD (.mk T3 YE) 1)=true then dX (.mk T3 YE::s)else aM 5)=(r,0):=A;split at dh;rotate_left
 ·cases dh
 rename_i c1;cases dh;obtain⟨rfl,rfl,c2,c3⟩:=c1;obtain⟨t0,rfl,ok0⟩:=eN (cG f2.1) cc;obtain⟨t,t',rfl,Mw,R9⟩:=eD (cG f3.1) cc;have et:t1=t:=(fS _ _).1 c2;have et2:t0=t':=(fS _ _).1 c3;subst et et2;obtain⟨l,rfl,wK,W,Th,hls⟩:=AW f3.2.1 f3.2.2;have XL:=hz.2;simp only[aO,bg,aS,aad]at XL;have hsv:=hv.2;have K:=MD f3.1;have p:=CC K.1 K.2 W Th f1.2.1 wK bn;have Tc:=CD l v;have Kg:=tX l (bY l v);have IU:=tX l (bY l v+1);have B:=tW W (bY l v);have L6:=tW W (bY l v+1);have T:=zi hls (bY l v);have VD:=zi hls (bY l v+1);have E:∀(e:Int)(S':b9),cz 137 ⟨a,b,c,d,q,H,g,u,m,G⟩ [.c (aY (.mk 2 N 63 M [])),.c (.sl 7 (aa [v,w,.mk 13 0 0 [] l [] []]))] (aE e) S'->cz 109 ⟨a,b,c,d,v::w :: .mk 13 0 0 [] l [] []::q,H,g,u,m,G⟩ [.c (aY (.mk 2 N 63 M []))] (aE e) S':=λe S' h =>
  oY _ _ 2 N 63 M _ [_,_,_] q _ cc (by rw[Gb];rfl) (by show List.length (v::w::Vl.mk 13 0 0 [] l [] []::q)<=_;simp only[aac];omega) h
 unfold bf;rcases MF f2.2.1 f2.2.2 with rfl|⟨y,rfl,hy⟩
 ·have e:aH 63 [] ⟨a,b,c,d,v::cw [] :: .mk 13 0 0 [] l [] []::q,H,g,u,m,G⟩=bp ⟨a,b,c,d,q,H,g,u,m,G⟩ [.mk 13 0 0 [] (if eE l v=true then l.take (bY l v)++l.drop (bY l v+1)else l) [] []]:=by unfold aH;rw[Gb];rfl
  rw[e];by_cases h:eE l v=true
  ·rw[if_pos h];have Ti:=Ld K.1 K.2 l (bY l v) W Th;rw[h]at p;have hi:bY l v<l.length:=by
    unfold eE at h;cases hh:l[bY l v]? with
    |none=>rw[hh]at h;cases h
    |some x=>exact(List.getElem?_eq_some_iff.1 hh).1
   have IV:=xP (l:=l.take (bY l v)++l.drop (bY l v+1)) (t:=t1) (u:=t0) T7 (by rw[lB,B.1,L6.2];rfl) Ti (by rw[od,T.1,VD.2];rfl);have J:aO (.mk 13 0 0 [] (l.take (bY l v)++l.drop (bY l v+1)) [] [])<=8589934593:=by simp only[aO,lC,bg,aS,aad];omega
   refine⟨E _ _ ?_,bX (S:=⟨a,b,c,d,q,H,g,u,m,G⟩) (eW (bz hg) IV) hq⟩;clear E e hv hs A Kg IU B L6 T VD IV Ti;obtain⟨C,U,V,Q,Y,P,O⟩:=v;cases l with
   |nil=>simp at hi
   |cons x l=>exact IW ⟨a,b,c,d,q,H,g,u,m,G⟩ N M C U V Q Y P O 9 0 0 [] [] [] 13 0 0 [] [] [] x l Rl _ (by simpa using hi) p J c9
  ·rw[if_neg h];rw[show eE l v=false by simpa using h]at p;refine⟨E _ _ ?_,bX (S:=⟨a,b,c,d,q,H,g,u,m,G⟩) (eW (bz hg) (xP wK W Th hls)) hq⟩;have J:aO (.mk 13 0 0 [] l [] [])<=8589934593:=by simp only[aO,bg,aS,aad];omega
   clear E e hv hs A Kg IU B L6 T VD;obtain⟨C,U,V,Q,Y,P,O⟩:=v;cases l with
   |nil=>exact IX ⟨a,b,c,d,q,H,g,u,m,G⟩ N M C U V Q Y P O 9 0 0 [] [] [] 13 0 0 [] [] [] _ p c9
   |cons x l=>exact IY ⟨a,b,c,d,q,H,g,u,m,G⟩ N M C U V Q Y P O 9 0 0 [] [] [] 13 0 0 [] [] [] x l Rl _ p J c9
 ·have e:aH 63 [] ⟨a,b,c,d,v::cw [y] :: .mk 13 0 0 [] l [] []::q,H,g,u,m,G⟩=(if 24<=((if eE l v=true then l.take (bY l v)++l.drop (bY l v+1)else l)).length then((13,⟨a,b,c,d,q,H,g,u,m,G⟩):MR)else bp ⟨a,b,c,d,q,H,g,u,m,G⟩ [.mk 13 0 0 [] (((if eE l v=true then l.take (bY l v)++l.drop (bY l v+1)else l)).take (bY l v)++bt v y::((if eE l v=true then l.take (bY l v)++l.drop (bY l v+1)else l)).drop (bY l v)) [] []]):=by unfold aH;rw[Gb];rfl
  have hsy:=hw.2;simp only[cw,aO,aK,bg,aS,aad]at hsy;have IZ:=jR f1.2 hy;by_cases h:eE l v=true
  ·rw[if_pos h]at e;have hi:bY l v<l.length:=by
    unfold eE at h;cases hh:l[bY l v]? with
    |none=>rw[hh]at h;cases h
    |some x=>exact(List.getElem?_eq_some_iff.1 hh).1
   have hXl:(l.take (bY l v)++l.drop (bY l v+1)).length+1=l.length:=by rw[aay,ZQ,Z7];omega
   have Z2:aP (l.take (bY l v)++l.drop (bY l v+1)) (.mk 11 [t1,t0])=true:=by rw[lB,B.1,L6.2];rfl
   have hXs:eg (l.take (bY l v)++l.drop (bY l v+1))=true:=by rw[od,T.1,VD.2];rfl
   have hXu:=Ld K.1 K.2 l (bY l v) W Th;have Z3:=ME K.1 K.2 f1.2.1 l W Th h;have Ti:=Lc K.1 K.2 f1.2.1 y _ Z2 hXu Z3.2;rw[Z3.1]at Ti;have hXz:aK (l.take (bY l v)++l.drop (bY l v+1))<=2000000000:=by rw[lC];omega
   rw[if_neg bn]at e;rw[e];rw[h]at p;generalize hX:l.take (bY l v)++l.drop (bY l v+1)=X at *;have c1:=tW Z2 (bY l v);have c2:=zi hXs (bY l v);have c3:=tX X (bY l v);have IV:=xP (t:=t1) (u:=t0) RU (show aP (X.take (bY l v)++bt v y::X.drop (bY l v)) _=true by rw[lB,c1.1,aP,IZ.1,c1.2];rfl) Ti (by rw[od,c2.1,eg,IZ.2,c2.2];rfl);have J:aO (.mk 13 0 0 [] (X.take (bY l v)++bt v y::X.drop (bY l v)) [] [])<=8589934593:=by simp only[bt,aO,lC,aK,bg,aS,aad];omega
   refine⟨E _ _ ?_,bX (S:=⟨a,b,c,d,q,H,g,u,m,G⟩) (eW (bz hg) IV) hq⟩;subst hX;clear E e hv hs A Kg IU B L6 T VD IV Ti c1 c2 c3 Z2 hXs hXu Z3 hXz IZ;obtain⟨C,U,V,Q,Y,P,O⟩:=v;rcases l with _|⟨x,_|⟨x2,l⟩⟩
   ·simp at hi
   ·have h0:bY [x] (.mk C U V Q Y P O)=0:=by simpa using hi
    rw[h0]at p J ⊢;exact Gd ⟨a,b,c,d,q,H,g,u,m,G⟩ N M C U V Q Y P O 9 0 0 [] [] [] 13 0 0 [] [] [] x y p J c9
   ·exact Ge ⟨a,b,c,d,q,H,g,u,m,G⟩ N M C U V Q Y P O 9 0 0 [] [] [] 13 0 0 [] [] [] x (x2::l) (by simp only[aac]at wK ⊢;omega) y _ (by simpa using hi) ek (by simp only[aac]at wK ⊢;omega) p J c9
  ·rw[if_neg h]at e;have h':eE l v=false:=by simpa using h
   rw[h']at p;rw[e];by_cases Ue:24<=l.length
   ·rw[if_pos Ue];refine⟨E _ _ ?_,.inr (.inr Z)⟩;clear E e hv hs A Kg IU B L6 T VD IZ;obtain⟨C,U,V,Q,Y,P,O⟩:=v;cases l with
    |nil=>simp at Ue
    |cons x l=>exact Gf ⟨a,b,c,d,q,H,g,u,m,G⟩ N M C U V Q Y P O 9 0 0 [] [] [] 13 0 0 [] [] [] x l Rl y _ (by simpa using Ue) p c9
   ·rw[if_neg Ue];have Ti:=Lc K.1 K.2 f1.2.1 y l W Th h';have IV:=xP (t:=t1) (u:=t0) RU (show aP (l.take (bY l v)++bt v y::l.drop (bY l v)) _=true by rw[lB,B.1,aP,IZ.1,B.2];rfl) Ti (by rw[od,T.1,eg,IZ.2,T.2];rfl);have J:aO (.mk 13 0 0 [] (l.take (bY l v)++bt v y::l.drop (bY l v)) [] [])<=8589934593:=by simp only[bt,aO,lC,aK,bg,aS,aad];omega
    refine⟨E _ _ ?_,bX (S:=⟨a,b,c,d,q,H,g,u,m,G⟩) (eW (bz hg) IV) hq⟩;clear E e hv hs A Kg IU B L6 T VD IV Ti IZ;obtain⟨C,U,V,Q,Y,P,O⟩:=v;cases l with
    |nil=>exact I0 ⟨a,b,c,d,q,H,g,u,m,G⟩ N M C U V Q Y P O 9 0 0 [] [] [] 13 0 0 [] [] [] y p J c9
    |cons x l=>exact I1 ⟨a,b,c,d,q,H,g,u,m,G⟩ N M C U V Q Y P O 9 0 0 [] [] [] 13 0 0 [] [] [] x l Rl y _ (by simpa using Tc) (by simpa using Ue) p J c9
def DJ(P:Int)(T:P=69\/P=70\/P=71\/P=72\/P=93\/P=94\/P=95)(S:b9)(G:Int)(W:L UInt8)(J:L Nd)(K:aS J<=8589934593)(U:L (L Ty->CR))(Y s:L Ty)(r:L Ty×Bool)(hf:bJ P J=some Y)(V:dH s S.st)(B:s.length<=340)(p:r.1.all br=true)(A:bN P s=(r,0)):bf G W P J S/\bK S r (aH P J S):=by
 rcases T with rfl|rfl|rfl|rfl|rfl|rfl|rfl
 ·exact N9 S G W J Y s r hf V B p A
 ·exact Oa S G W J Y s r hf V B p A
 ·exact Ob S G W J Y s r hf V B p A
 ·exact Oc S G W J Y s r hf V B p A
 ·exact Od S G W J Y s r hf V B p A
 ·exact Oe S G W J Y s r hf V B p A
 ·exact Of S G W J Y s r hf V B p A
def Le(P:Int)(T:P=73\/P=74\/P=75\/P=76\/P=77\/P=78\/P=79\/P=80\/P=81\/P=82)(S:b9)(G:Int)(W:L UInt8)(J:L Nd)(K:aS J<=8589934593)(U:L (L Ty->CR))(Y s:L Ty)(r:L Ty×Bool)(hf:bJ P J=some Y)(V:dH s S.st)(B:s.length<=340)(p:r.1.all br=true)(A:b8 P Y s=(r,0)):bf G W P J S/\bK S r (aH P J S):=by
 rcases T with rfl|rfl|rfl|rfl|rfl|rfl|rfl|rfl|rfl|rfl
 ·exact Og S G W J Y s r hf V B p A
 ·exact I2 S G W J Y s r hf V B p A
 ·exact I3 S G W J Y s r hf V B p A
 ·exact I4 S G W J Y s r hf V B p A
 ·exact Oh S G W J Y s r hf V B p A
 ·exact Oi S G W J Y s r hf V B p A
 ·exact Rj S G W J Y s r hf V B p A
 ·exact Gg S G W J Y s r hf V B p A
 ·exact Lf S G W J Y s r hf V B p A
 ·exact Gi S G W J K Y s r hf V B p A
def I5(P:Int)(O:P=84\/P=85\/P=86\/P=87\/P=88\/P=89\/P=90\/P=91\/P=92)(S:b9)(A:mJ S.self S.gv S.gw S.balance=true)(V:0<=S.bG/\S.bG<=bL)(G:Int)(W:L UInt8)(J:L Nd)(K:aS J<=8589934593)(Q:L (L Ty->CR))(Y s:L Ty)(r:L Ty×Bool)(hf:bJ P J=some Y)(U:dH s S.st)(B:s.length<=340)(p:r.1.all br=true)(T:bU P Y s=(r,0)):bf G W P J S/\bK S r (aH P J S):=by
 rcases O with rfl|rfl|rfl|rfl|rfl|rfl|rfl|rfl|rfl
 ·exact F7 S A V G W J K Y s r hf U B p T
 ·exact KZ S A V G W J K Y s r hf U B p T
 ·exact II S A V G W J K Y s r hf U B p T
 ·exact K3 S A V G W J K Y s r hf U B p T
 ·exact Cz S A V G W J K Y s r hf U B p T
 ·exact KX S A V G W J K Y s r hf U B p T
 ·exact F3 S A V G W J K Y s r hf U B p T
 ·exact F5 S A V G W J K Y s r hf U B p T
 ·exact DD S A V G W J K Y s r hf U B p T
def I6(P:Int)(T:P=59\/P=61\/P=62\/P=63)(S:b9)(G:Int)(V:L UInt8)(J:L Nd)(K:aS J<=8589934593)(W:L (L Ty->CR))(Y s:L Ty)(r:L Ty×Bool)(hf:bJ P J=some Y)(U:dH s S.st)(B:s.length<=340)(p:r.1.all br=true)(A:cH P W Y s=(r,0)):bf G V P J S/\bK S r (aH P J S):=by
 rcases T with rfl|rfl|rfl|rfl
 ·exact K5 S G V J W Y s r hf U B p A
 ·exact IQ S G V J W Y s r hf U B p A
 ·exact N8 S G V J W Y s r hf U B p A
 ·exact Gc S G V J W Y s r hf U B p A
def DK(P:Int)(T:P=46\/P=47\/P=48\/P=49\/P=50\/P=51\/P=53\/P=54\/P=56\/P=57)(S:b9)(G:Int)(V:L UInt8)(J:L Nd)(K:aS J<=8589934593)(W:L (L Ty->CR))(Y s:L Ty)(r:L Ty×Bool)(hf:bJ P J=some Y)(U:dH s S.st)(B:s.length<=340)(p:r.1.all br=true)(A:aV P W Y s=(r,0)):bf G V P J S/\bK S r (aH P J S):=by
 rcases T with rfl|rfl|rfl|rfl|rfl|rfl|rfl|rfl|rfl|rfl
 ·exact Lg S G V J W Y s r hf U B p A
 ·exact Gj S G V J W Y s r hf U B p A
 ·exact Oj S G V J W Y s r hf U B p A
 ·exact Ok S G V J W Y s r hf U B p A
 ·exact Lh S G V J W Y s r hf U B p A
 ·exact I7 S G V J W Y s r hf U B p A
 ·exact Li S G V J W Y s r hf U B p A
 ·exact Lj S G V J W Y s r hf U B p A
 ·exact Ol S G V J W Y s r hf U B p A
 ·exact K4 S G V J W Y s r hf U B p A
mutual
def CE:∀(t:Ty)(d n K W m:Int),K<=d->W<=n->eF t d n=(true,m)->eF t K W=(true,m-n+W)
 |.mk T J,d,n,K,W,m,Y,E,h=>by
  simp only[eF]at h ⊢;by_cases c:d>24\/n+1>300\/arity T≠J.length
  ·rw[if_pos c]at h;cases h
  rw[if_neg c]at h;have C:¬(K>24\/W+1>300\/arity T≠J.length):=by
   rintro(V|V|V)
   ·exact c (.inl bn)
   ·exact c (.inr (.inl bn))
   ·exact c (.inr (.inr V))
  rw[if_neg C];cases e:dJ J (d+1) (n+1)with
  |mk b B =>
   rw[e]at h;cases b with
   |false=>cases h
   |true =>
    have h2:=Ad J (d+1) (n+1) (K+1) (W+1) B bn bn e;rw[h2];simp only[aaW]at h ⊢;exact⟨h.1,bn⟩
def Ad:∀(l:L Ty)(d n K W m:Int),K<=d->W<=n->dJ l d n=(true,m)->dJ l K W=(true,m-n+W)
 |[],d,n,K,W,m,Y,E,h=>by
  simp only[dJ,aaW]at h ⊢;exact⟨trivial,bn⟩
 |t::l,d,n,K,W,m,Y,E,h=>by
  simp only[dJ]at h ⊢;cases e:eF t d n with
  |mk b B =>
   rw[e]at h;cases b with
   |false=>cases h
   |true =>
    have h2:=CE t d n K W B Y E e;rw[h2];have U:=Ad l d B K (B-n+W) m Y bn h;show dJ l K (B-n+W)=_;rw[U];simp only[aaW];exact⟨trivial,bn⟩
end
def I8{t:Ty}{d n m:Int}(h:eF t d n=(true,m)):n<=299/\n<m:=by
 have h1:n<=299:=by
  obtain⟨T,J⟩:=t;simp only[eF]at h;by_cases c:d>24\/n+1>300\/arity T≠J.length
  ·simp_all
  ·omega
 have h2:=(qp t d n bn).1;rw[h]at h2;exact⟨h1,h2⟩
def CF:∀{l:L Ty}{d n m:Int}{x:Ty},dJ l d n=(true,m)->0<=n->x∈l->∃U B,0<=U/\eF x d U=(true,B)
 |t::l,d,n,m,x,h,E,I=>by
  simp only[dJ]at h;cases e:eF t d n with
  |mk b B =>
   rw[e]at h;cases b with
   |false=>cases h
   |true =>
    rcases List.mem_cons.1 I with rfl|I
    ·exact⟨n,B,E,e⟩
    ·have:=(I8 e).2;exact CF (l:=l) h bn I
def og{T:Int}{J:L Ty}(h:br (.mk T J)=true):∀x∈J,br x=true:=by
 intro x I;unfold br at h;simp only[eF]at h;split at h
 ·cases h
 ·cases e:dJ J (1+1) (0+1)with
  |mk b A =>
   rw[e]at h;cases b with
   |false=>cases h
   |true =>
    obtain⟨U,B,h1,h2⟩:=CF e bn I;have K:=CE x _ U 1 0 B bn bn h2;unfold br;rw[K]
def Lk{J:L Ty}(h:br (.mk 13 J)=true):br (.mk 11 J)=true:=by
 unfold br at h ⊢;simp only[eF]at h ⊢;split at h
 ·cases h
 ·rename_i c;have Y:arity 13=2:=rfl;have W:arity 11=2:=rfl;rw[Y]at c;rw[W,if_neg c];cases e:dJ J (1+1) (0+1)with
  |mk b B =>
   rw[e]at h;cases b with
   |false=>cases h
   |true=>rfl
def I9{P n p:Int}{s:L UInt8}{k:Nat}{d K:Int}(Y:K<=d)(h:fT P n p s k d=0):fT P n p s k K=0:=by
 unfold fT at h ⊢;by_cases c:d>24
 ·omega
 rw[if_neg c]at h;rw[if_neg bn];exact h
mutual
def Ll:∀(n:Nd)(d K:Int),K<=d->ef n d=0->ef n K=0
 |.mk P n p s J,d,K,Y,h=>by
  obtain⟨h1,h2⟩:=jf h;simp only[ef];rw[if_pos (I9 Y h1)];exact tY J _ _ bn h2
def tY:∀(l:L Nd)(d K:Int),K<=d->cY l d=0->cY l K=0
 |[],_,_,_,_=>rfl
 |x::l,d,K,Y,h=>by
  simp only[cY]at h ⊢;by_cases c:ef x d=0
  ·rw[if_pos c]at h;rw[if_pos (Ll x d K Y c)];exact tY l d K Y h
  ·rw[if_neg c]at h;exact absurd h c
end
def CG:∀{l:L Nd}{x:Nd}{d:Int},cY l d=0->x∈l->ef x d=0
 |y::l,x,d,h,I=>by
  simp only[cY]at h;by_cases c:ef y d=0
  ·rw[if_pos c]at h;rcases List.mem_cons.1 I with rfl|I
   ·exact c
   ·exact CG h I
  ·omega
def EG:∀{l:L Nd}{x:Nd},x∈l->many x<=cF l
 |y::l,x,I=>by
  simp only[cF];rcases List.mem_cons.1 I with rfl|I
  ·omega
  ·have:=EG I;omega
def iH(W:L Nd):Prop:=dD (.mk 3 0 0 [] W)=0
def u9{W:L Nd}:iH W↔cY W 2=0/\cF W<=299:=by
 unfold iH;rw[jH];simp only[many];constructor
 ·rintro⟨h1,h2⟩;exact⟨(jf h1).2,bn⟩
 ·rintro⟨h1,h2⟩;refine⟨?_,bn⟩;simp only[ef];rw[if_pos (by simp[fT,bL])];exact h1
def kW{W:L Nd}(h:iH W):cF W<=299:=(u9.1 h).2
def wu{W:L Nd}(h:iH W):aS W<=60300:=by
 have:=wv h;simp only[bZ,aad]at this;omega
def nZ{W:L Nd}{k N P:Int}{S:L UInt8}{J:L Nd}(h:iH W)(Y:Nd.mk k N P S J∈W):iH J/\cF J+1<=cF W:=by
 obtain⟨h1,h2⟩:=u9.1 h;have K:=(jf (CG h1 Y)).2;have V:=EG Y;simp only[many]at V;exact⟨u9.2 ⟨tY _ _ _ bn K,bn⟩,V⟩
def Iu{n:Nd}(h:dD n=0):iH (cJ n):=by
 obtain⟨k,N,P,S,J⟩:=n;obtain⟨h1,h2⟩:=jH.1 h;simp only[many]at h2;exact u9.2 ⟨(jf h1).2,by simp only[cJ];omega⟩
def zZ(W:L Nd)(s U:L Ty)(T:Bool):Prop:=cy W (s,false)=((U,T),0)
def FT(C:L Ty×Bool):List gU->L Ty->Prop
 |[],s=>C=(s,false)
 |F::t,s=>s.length+cF F.code<=340/\iH F.code/\F.pos<=F.code.length/\∃U T,zZ (F.code.drop F.pos) s U T/\(T=false ->
   (F.fin=0/\FT C t U) \/
   (F.fin=1/\F.aside.length<=1/\∃u,dH u F.aside.reverse/\FT C t (u++U)) \/
   (F.fin=2/\F.aside.length<=340/\∃Y u,U=[Y]/\dH u F.aside.reverse/\FT C t (Y::u)) \/
   (F.fin=3/\∃e,(∀x∈F.aside,Fit e x)/\U.length+1+cF F.code<=340/\(∃A G,zZ F.code (e::U) A G/\(G=false->A=U))/\FT C t U) \/
   (F.fin=4/\∃a O,U=a::O/\bM a=2/\O.length+cF F.code<=340/\(∃A G,zZ F.code O A G/\(G=false->A=a::O))/\FT C t O))
def S7(F:gU):Nat:=1+2*cF (F.code.drop F.pos)
def wq:List gU->Nat
 |[]=>0
 |F::t=>S7 F+wq t
def Cl:∀t:List gU,t.length<=wq t
 |[]=>aav _
 |F::t=>by have:=Cl t;simp only[aac,wq,S7];omega
def rY{a b:CR}{r:L Ty×Bool}(h:cR a b=(r,0)):a.2=0/\(a.1.2=false->r=a.1):=by
 unfold cR at h;split at h
 ·rename_i c;exact absurd (Zb Prod.snd h) c
 rename_i Y;simp only[ne_eq,aaK]at Y;refine⟨Y,λhf=>?_⟩;split at h
 ·rename_i c;exact absurd (Zb Prod.snd h) c
 rw[if_neg (by rw[hf];decide)]at h;split at h
 ·cases h;rfl
 ·cases h
def rZ{a b:CR}{r:L Ty×Bool}(h:cR a b=(r,0)):b.2=0/\(b.1.2=false->r=b.1):=by
 unfold cR at h;split at h
 ·rename_i c;exact absurd (Zb Prod.snd h) c
 split at h
 ·rename_i c;exact absurd (Zb Prod.snd h) c
 rename_i Y C;simp only[ne_eq,aaK]at C;refine⟨C,λhf=>?_⟩;by_cases K:a.1.2=true
 ·simp_all
 rw[if_neg K]at h;split at h
 ·rename_i c4;cases h;have e:=(nA _ _).1 (c4.resolve_left (by rw[hf];decide));have Q:a.1.2=false:=by simpa using K
  rw[Prod.ext_iff];exact⟨e,by rw[Q,hf]⟩
 ·cases h
def zb{W:L Nd}{s:L Ty}(h:(cy W (s,false)).2=0):zZ W s (cy W (s,false)).1.1 (cy W (s,false)).1.2:=by
 unfold zZ;rw[<- h]
def FO{C:L Ty×Bool}{H:List gU}{c:L Nd}{Q:L Ty}{r:L Ty×Bool}(A:(cy c (Q,false)).2=0)(E:(cy c (Q,false)).1.2=false->r=(cy c (Q,false)).1)(B:Q.length+cF c<=340)(Y:iH c)
  (h:r.2=false->FT C H r.1):FT C (⟨c,0,0,[]⟩::H) Q:=by
 refine⟨B,Y,aaF _,(cy c (Q,false)).1.1,(cy c (Q,false)).1.2,zb A,λhf => .inl ⟨Z,?_⟩⟩;have e:=E hf;rw[e]at h;exact h hf
def VE(C:L Ty×Bool)(S:b9)(r:L Ty×Bool)(o:MR):Prop :=
 o.1=0/\∃F Q,o.2.fr=F::S.fr/\iH F.code/\dH Q o.2.st/\((r.2=false->FT C S.fr r.1)->FT C (F::S.fr) Q)
def Comes(C:L Ty×Bool)(S:b9)(r:L Ty×Bool)(o:MR):Prop:=bK S r o\/VE C S r o\/Uf o
def Lm{P:Int}{J:L Nd}{Y:L Ty}(h:bJ P J=some Y)(V:fG P=[99]):∃p q r c,J=[.mk 3 p q r c]/\Y=[]:=by
 obtain⟨h1,h2⟩:=jk h;rw[V]at h1 h2;rcases J with _|⟨x,_|⟨y,l⟩⟩
 ·simp at h1
 ·obtain⟨W,N,p,q,xs⟩:=x;have K:(if W=3 then some []else none)=some Y:=h2;split at K
  ·simp_all
  ·cases K
 ·simp at h1
def AX{P:Int}{J:L Nd}{Y:L Ty}(h:bJ P J=some Y)(S:fG P=[99,99]):∃p q r c U T O Q,J=[.mk 3 p q r c,.mk 3 U T O Q]/\Y=[]:=by
 obtain⟨h1,h2⟩:=jk h;rw[S]at h1 h2;rcases J with _|⟨x,_|⟨y,_|⟨z,l⟩⟩⟩
 ·simp at h1
 ·simp at h1
 ·obtain⟨V,N,p,q,xs⟩:=x;obtain⟨W,I,U,T,M⟩:=y;have K:(if V=3 then(if W=3 then some []else none)else none)=some Y:=h2;split at K
  ·simp_all
  ·cases K
 ·simp at h1
def Rk{P:Int}{J:L Nd}{Y:L Ty}(h:bJ P J=some Y)(O:fG P=[116,116,99]):∃x y p q r c,J=[x,y,.mk 3 p q r c]/\(aW x).2=0/\(aW y).2=0/\Y=[(aW x).1,(aW y).1]:=by
 obtain⟨h1,h2⟩:=jk h;rw[O]at h1 h2;rcases J with _|⟨x,_|⟨y,_|⟨z,_|⟨H,l⟩⟩⟩⟩
 ·simp at h1
 ·simp at h1
 ·simp at h1
 ·obtain⟨V,N,p,q,xs⟩:=x;obtain⟨W,T,S,Q,U⟩:=y;obtain⟨M,G,E,D,I⟩:=z;have K:(if(aW (.mk V N p q xs)).2=0 then(if(aW (.mk W T S Q U)).2=0 then(if M=3 then some ([]++[(aW (.mk V N p q xs)).1]++[(aW (.mk W T S Q U)).1])else none)else none)else none)=some Y:=h2;split at K
  ·grind
  ·cases K
 ·simp at h1
def AY:bW 52=1:=by decide +kernel
def AZ:bW 55=1:=by decide +kernel
def A0:bW 58=1:=by decide +kernel
def MG:bW 60=1:=by decide +kernel
def A1:bW 64=1:=by decide +kernel
def MH:bW 65=1:=by decide +kernel
def MI:bW 66=0:=by decide +kernel
def MJ:bW 67=2:=by decide +kernel
def MK:bW 68=1:=by decide +kernel
def CH:∀{l:L Vl}{x:Vl},eg l=true->x∈l->eC x=true
 |y::l,x,h,I=>by
  simp only[eg,aal]at h;rcases List.mem_cons.1 I with rfl|I
  ·exact h.1
  ·exact CH h.2 I
def Tj{v:Vl}{t u:Ty}(h:bE v (.mk 14 [t,u])=true)(U:eC v=true):∃W,v = .mk 14 0 0 [] [] [t,u] W/\iH W/\(cy W ([t],false)).2=0/\((cy W ([t],false)).1.2=false->(cy W ([t],false)).1.1=[u])/\iT W=false:=by
 obtain⟨k,n,a,s,J,Y,W⟩:=v;obtain⟨D,S,Q⟩:=kQ h;simp only[bM]at D;subst D;have P:Y.length=2/\a=0/\n=0/\s=[]/\J.length=0:=by simpa[cq]using S
 obtain⟨T,rfl,rfl,rfl,O⟩:=P;obtain rfl:=List.length_eq_zero_iff.1 O;rcases Y with _|⟨N,_|⟨M,_|⟨G,q⟩⟩⟩
 ·simp at T
 ·simp at T
 ·have h2:(cP t N&&cP u M)=true:=by
   have K:=h;unfold bE at K;simp only[cq,bM,aD,aq]at K;simpa using K
  rw[aal]at h2;obtain rfl:=(fS _ _).1 h2.1;obtain rfl:=(fS _ _).1 h2.2;rw[Bu 14 0 0 [] [] t u W rfl]at U;simp only[aal,aaz,Z5,acr]at U;obtain⟨⟨V,C⟩,I⟩:=U;obtain⟨g1,_,_,_,H⟩:=wY V;rw[H]at V C;simp only[cJ]at V C;refine⟨W,Z,g1,V,λhf=>?_,I⟩;rcases C with C|C
  ·simp_all
  ·exact(nA _ _).1 C
 ·simp at T
end Go.Proofs
