/- Package run: -/
import Derived.Test.YteanleefnjknoaaGreatDoorRunAB
set_option linter.defProp false
set_option linter.unusedVariables false
set_option linter.unusedSimpArgs false
namespace Go.Proofs
open Go.cK
def D7{v:Vl}{t u:Ty}(h:bL v (.mk 13 [t,u])=true)(Y:eP v=true):∃l,v = .mk 13 0 0 [] l [] []/\l.length<=24/\aS l (.mk 11 [t,u])=true/\y8 l=true/\eg l=true:=by
 obtain⟨k,n,a,s,J,B,code⟩:=v;obtain⟨D,W,_⟩:=iS h;simp only[bS]at D;subst D;simp[cz]at W;simp[bL,cz,bS,aE,au]at h;obtain⟨rfl,rfl,rfl,rfl⟩:=W;simp[eP]at Y;obtain⟨_,⟨⟨h1,h2⟩,V⟩,S⟩:=h;exact⟨J,by rw[h1],h2,V,S,Y⟩
def Be{l:L Vl}{t u:Ty}(E:l.length<=24)(h:aS l (.mk 11 [t,u])=true)(U:y8 l=true)(Y:eg l=true):bL (.mk 13 0 0 [] l [] []) (.mk 13 [t,u])=true/\eP (.mk 13 0 0 [] l [] [])=true:=by simp[bL,cz,bS,aE,au,eP,h,Y,E,U]
def Zo{P:Int}{J:L Nd}{B:L Ty}(h:bW P J=some B)(G:gC P=[116,116]):∃x y,J=[x,y]/\(aP x).2=0/\(aP y).2=0/\B=[(aP x).1,(aP y).1]:=by
 obtain⟨h1,h2⟩:=kS h;rw[G]at h1 h2;rcases J with _|⟨x,_|⟨y,_|⟨z,r⟩⟩⟩
 ·simp at h1
 ·simp at h1
 ·obtain⟨T,N,p,q,xs⟩:=x;obtain⟨Y,V,U,S,W⟩:=y;have Q:(if(aP (.mk T N p q xs)).2=0 then(if(aP (.mk Y V U S W)).2=0 then some ([]++[(aP (.mk T N p q xs)).1]++[(aP (.mk Y V U S W)).1])else none)else none)=some B:=h2;split at Q
  ·grind
  ·cases Q
 ·simp at h1
def R2:cr 57=2:=by decide +kernel
def R3:cr 59=1:=by decide +kernel
def R4:cr 61=0:=by decide +kernel
def Qg(S:ct)(W:Int)(T:L UInt8)(J:L Nd)(codes:L (L Ty->CR))(B s:L Ty)(r:L Ty×Bool)(hf:bW 57 J=some B)(G:ep s S.st)(hl:s.length<=340)(hg:r.1.all bB=true)(A:aX 57 codes B s=(r,0)):bh W T 57 J S/\bY S r (aJ 57 J S):=by
 obtain⟨a,b,c,d,st,H,g,u,m,U⟩:=S;obtain⟨rfl,rfl⟩:=cQ hf bT;have D:=bP G;simp only at G D;rcases s with _|⟨V,_|⟨t2,s⟩⟩
 ·cases A
 ·cases A
 obtain⟨v,q0,rfl,p,pV⟩:=bl G;obtain⟨w,q,rfl,hw,hq⟩:=bl pV;have f1:=cW p.1;have Q:=cW hw.1;obtain⟨P,D1⟩:=t2;simp only[aac]at D hl;have N:(if P=10/\dh V (aE (.mk P D1) 0)=true then eT (.mk P D1::s)else aR 5)=(r,0):=A;split at N;rotate_left
 ·cases N
 rename_i c1;cases N;obtain⟨rfl,c2⟩:=c1;obtain⟨t,rfl,R1⟩:=fJ (cH Q.1) bT;have et:V=t:=(gF _ _).1 c2;subst et;obtain⟨l,rfl,Ag,O,M⟩:=wI Q.2.1 Q.2.2;have hsz:=p.2;have K:=hw.2;simp only[aM,bz,aU,aad]at K;unfold bh;have e:aJ 57 [] ⟨a,b,c,d,v :: .mk 10 0 0 [] l [] []::q,H,g,u,m,U⟩=(if 24<=l.length then(13,⟨a,b,c,d,q,H,g,u,m,U⟩)else bq ⟨a,b,c,d,q,H,g,u,m,U⟩ [.mk 10 0 0 [] (v::l) [] []]):=by unfold aJ;rw[R2];rfl
 rw[e];have oO:=f1.2;have C:aS (v::l) V=true:=by simp[aS,oO.1,O]
 have I:eg (v::l)=true:=by simp[eg,oO.2,M]
 have rN:aM (.mk 10 0 0 [] (v::l) [] [])<=8589934593:=by simp only[aM,aO,bz,aU,aad];omega
 have hk:∀(e:Int)(E:ct),cJ 94 ⟨a,b,c,d,q,H,g,u,m,U⟩ [.c (aW (.mk 2 W 57 T [])),.c (.sl 7 (aa [v,.mk 10 0 0 [] l [] []]))] (ag e) E->cJ 58 ⟨a,b,c,d,v :: .mk 10 0 0 [] l [] []::q,H,g,u,m,U⟩ [.c (aW (.mk 2 W 57 T []))] (ag e) E:=λe E h =>
  rG _ _ 2 W 57 T _ [_,_] q _ bT (by rw[R2];rfl) (by show List.length (v::Vl.mk 10 0 0 [] l [] []::q)<=_;simp only[aac];omega) h
 obtain⟨k1,n1,a1,s1,Y,aj,aB⟩:=v;by_cases h:24<=l.length
 ·rw[if_pos h];exact⟨hk _ _ (NH ⟨a,b,c,d,q,H,g,u,m,U⟩ W T k1 n1 a1 s1 Y aj aB 10 0 0 [] l [] [] h cc),.inr (.inr Z)⟩
 ·rw[if_neg h];exact⟨hk _ _ (NI ⟨a,b,c,d,q,H,g,u,m,U⟩ W T k1 n1 a1 s1 Y aj aB 10 0 0 [] l [] [] h rN cc),cu (S:=⟨a,b,c,d,q,H,g,u,m,U⟩) (fU (bK hg) (F9 dG C I)) hq⟩
def Qh(S:ct)(W:Int)(A:L UInt8)(J:L Nd)(codes:L (L Ty->CR))(B s:L Ty)(r:L Ty×Bool)(hf:bW 59 J=some B)(G:ep s S.st)(p:s.length<=340)(hg:r.1.all bB=true)(V:cT 59 codes B s=(r,0)):bh W A 59 J S/\bY S r (aJ 59 J S):=by
 obtain⟨a,b,c,d,st,H,g,u,m,U⟩:=S;obtain⟨rfl,rfl⟩:=cQ hf bT;have O:=bP G;simp only at G O;cases s with
 |nil=>cases V
 |cons t s =>
 obtain⟨v,q,rfl,M,hq⟩:=bl G;have P:=cW M.1;obtain⟨T,ts⟩:=t;simp only[aac]at O p;have N:(if T=6\/T=10\/T=13 then eT (.mk 4 []::s)else aR 5)=(r,0):=V;split at N;rotate_left
 ·cases N
 rename_i c1;cases N;have hb:(vS v).length+(eC v).length<=200:=by
  rcases c1 with rfl|rfl|rfl
  ·obtain⟨Q,rfl,g1⟩:=yo P.2.1;simpa[vS,eC]using g1
  ·obtain⟨t,rfl,_⟩:=fJ (cH P.1) bT;obtain⟨l,rfl,Ag,_,_⟩:=wI P.2.1 P.2.2;simp[vS,eC];omega
  ·obtain⟨t,t',rfl,_,_⟩:=fz (cH P.1) bT;obtain⟨l,rfl,Ag,_,_,_⟩:=D7 P.2.1 P.2.2;simp[vS,eC];omega
 unfold bh;have e:aJ 59 [] ⟨a,b,c,d,v::q,H,g,u,m,U⟩=bq ⟨a,b,c,d,q,H,g,u,m,U⟩ [aQ 4 (((vS v).length+(eC v).length:Nat):Int)]:=by unfold aJ;rw[R3];rfl
 rw[e];clear M P G V;obtain⟨K,I,E,Q,Y,D,C⟩:=v;simp only[vS,eC]at hb ⊢;exact⟨rG _ _ 2 W 59 A _ [_] q _ bT (by rw[R3];rfl) (by show List.length (Vl.mk K I E Q Y D C::q)<=_;simp only[aac];omega) (Qi ⟨a,b,c,d,q,H,g,u,m,U⟩ W A K I E Q Y D C bn cc),cu (S:=⟨a,b,c,d,q,H,g,u,m,U⟩) (fU (bK hg) (jD bT ga (λ_=>by omega))) hq⟩
def NJ(S:ct)(Y:Int)(T:L UInt8)(J:L Nd)(codes:L (L Ty->CR))(B s:L Ty)(r:L Ty×Bool)(hf:bW 61 J=some B)(G:ep s S.st)(E:s.length<=340)(p:r.1.all bB=true)(A:cT 61 codes B s=(r,0)):bh Y T 61 J S/\bY S r (aJ 61 J S):=by
 obtain⟨a,b,c,d,q,H,g,u,m,U⟩:=S;obtain⟨x,y,rfl,O,Q,rfl⟩:=Zo hf bT;have W:=bP G;simp only at G W;have N:(if fY (aP x).1=true then eT (.mk 13 [(aP x).1,(aP y).1]::s)else aR 5)=(r,0):=A;split at N;rotate_left
 ·cases N
 cases N;unfold bh;have e:aJ 61 [x,y] ⟨a,b,c,d,q,H,g,u,m,U⟩=bq ⟨a,b,c,d,q,H,g,u,m,U⟩ [.mk 13 0 0 [] [] [] []]:=by unfold aJ;rw[R4];rfl
 rw[e];exact⟨rG _ _ 2 Y 61 T _ [] q _ bT (by rw[R4];rfl) cc (NK ⟨a,b,c,d,q,H,g,u,m,U⟩ Y T x y cc),cu (S:=⟨a,b,c,d,q,H,g,u,m,U⟩) (fU (bK p) (Be bT Z Z Z)) G⟩
def oU{x:Vl}{t u:Ty}(h:bL x (.mk 11 [t,u])=true):∃y z,x=bA y z/\bL y t=true/\bL z u=true:=by
 obtain⟨k,n,a,s,J,B,code⟩:=x;obtain⟨D,Y,_⟩:=iS h;simp only[bS]at D;subst D;simp[cz]at Y;simp[bL,cz,bS,au]at h;obtain⟨rfl,rfl,rfl,rfl⟩:=Y;rcases J with _|⟨x,_|⟨y,_|⟨z,r⟩⟩⟩
 ·simp at h
 ·simp at h
 ·simp[dL]at h;exact⟨x,y,by rw[h.1];rfl,h.2.1,h.2.2⟩
 ·simp at h
def yp(y z:Vl):mD (bA y z)=y:=rfl
def IV{t:Ty}(A:fY t=true)(Q:ig t=false){a b c:Vl}(h1:bL a t=true)(h2:bL b t=true)(V:bL c t=true)(Y:dR a b<0)(U:dR b c<0):dR a c<0:=by
 obtain⟨_,_,_,_,g⟩:=Bf a b c t A Q h1 h2 V;have:=g.1 bn bn;omega
def Qj{t u:Ty}(A:fY t=true)(G:ig t=false):∀(l:L Vl)(x:Vl),aS (x::l) (.mk 11 [t,u])=true->y8 (x::l)=true->∀y∈l,dR (mD x) (mD y)<0
 |[],x,_,_,y,Q=>by simp at Q
 |z::r,x,hA,hu,y,Q=>by
  simp only[aS,aai]at hA;simp only[y8,aai,aeH]at hu;rcases List.mem_cons.1 Q with rfl|Y
  ·exact hu.1
  ·have U:=Qj A G r z (by simp only[aS,aai];exact hA.2) (by simpa[y8]using hu.2) y Y;obtain⟨N,C,rfl,O,_⟩:=oU hA.1;obtain⟨T,S,rfl,D,_⟩:=oU hA.2.1;have W:=(fN (.mk 11 [t,u]) r).1 hA.2.2 y Y;obtain⟨P,M,rfl,V,_⟩:=oU W;exact IV A G O D V hu.1 U
def R5{t u:Ty}(A:fY t=true)(Q:ig t=false){k:Vl}(U:bL k t=true):∀(l:L Vl),aS l (.mk 11 [t,u])=true->y8 l=true->∀(i:Nat) x,cw l k<=i->l[i]?=some x->¬dR (mD x) k<0
 |[],_,_,i,x,_,h=>by simp at h
 |z::l,hA,hu,i,x,hi,h=>by
  have W:bL z (.mk 11 [t,u])=true/\aS l (.mk 11 [t,u])=true:=by simpa[aS]using hA
  have T:y8 l=true:=by
   cases l with
   |nil=>rfl
   |cons y r=>simp only[y8,aai]at hu;simpa[y8]using hu.2
  by_cases D:dR (mD z) k<0
  ·simp only[cw,D,if_true]at hi;cases i with
   |zero=>omega
   |succ j=>exact R5 A Q U l W.2 T j x bn oy
  ·cases i with
   |zero=>simp at h;subst h;exact D
   |succ j =>
    have Y:=aaB (show l[j]?=some x by simpa using h);have p:=Qj A Q l z hA hu x Y;obtain⟨G,P,rfl,S,_⟩:=oU W.1;obtain⟨N,C,rfl,V,_⟩:=oU ((fN (.mk 11 [t,u]) l).1 W.2 x Y);intro O;exact D (IV A Q S V U p O)
def Ga{l:L Vl}{t u:Ty}{k:Vl}(A:fY t=true)(Q:ig t=false)(K:aS l (.mk 11 [t,u])=true)(U:y8 l=true)(D:bL k t=true)(E:l.length<=24)(Y:aO l<=1000000000):ah 124 [.sl 7 (aa l),bH k] (.eY [ag (cw l k:Nat),.bool (fB l k)]):=by
 refine Kx l k bn (λx O=>?_) (R5 A Q D l K U);obtain⟨y,z,rfl,G,_⟩:=oU ((fN (.mk 11 [t,u]) l).1 K x O);have h1:=fy O;have h2:aM y<=aM (bA y z):=by simp only[bA,aM,aO];omega
 exact Hw (bA y z) k y t Z (oV y k t Q G D bn)
def R6:cr 62=2:=by decide +kernel
def R7{t u:Ty}(h:bB (.mk 13 [t,u])=true):fY t=true/\ig t=false:=by
 have h1:=Qk h;simp only[NM,aai]at h1;have h2:lD [t,u]=true:=by simpa using h1.1
 exact⟨by simpa[lD]using h2,dQ (jk (nj h)).2 (show t∈au (.mk 13 [t,u])by simp[au])⟩
def TP(S:ct)(V:Int)(T:L UInt8)(J:L Nd)(codes:L (L Ty->CR))(B s:L Ty)(r:L Ty×Bool)(hf:bW 62 J=some B)(A:ep s S.st)(hl:s.length<=340)(hg:r.1.all bB=true)(p:cT 62 codes B s=(r,0)):bh V T 62 J S/\bY S r (aJ 62 J S):=by
 obtain⟨a,b,c,d,st,H,g,u,m,U⟩:=S;obtain⟨rfl,rfl⟩:=cQ hf bT;have fj:=bP A;simp only at A fj;rcases s with _|⟨t1,_|⟨t2,s⟩⟩
 ·cases p
 ·cases p
 obtain⟨v,q0,rfl,hv,pV⟩:=bl A;obtain⟨w,q,rfl,hw,hq⟩:=bl pV;have f1:=cW hv.1;have P:=cW hw.1;obtain⟨N,D1⟩:=t2;simp only[aac]at fj hl;have dA:(if N=13/\dh t1 (aE (.mk N D1) 0)=true/\mH (aE (.mk N D1) 1)=true then eT (.mk 9 [aE (.mk N D1) 1]::s)else aR 5)=(r,0):=p;split at dA;rotate_left
 ·cases dA
 rename_i c1;obtain⟨rfl,c2,_⟩:=c1;obtain⟨t,t',rfl,R1,X0⟩:=fz (cH P.1) bT;cases dA;have et:t1=t:=(gF _ _).1 c2;subst et;obtain⟨l,rfl,Ag,Q,Zp,hls⟩:=D7 P.2.1 P.2.2;have hsw:=hw.2;simp only[aM,bz,aU,aad]at hsw;have Ql:=R7 P.1;have M:=Ga Ql.1 Ql.2 Q Zp f1.2.1 Ag bn;unfold bh;have e:aJ 62 [] ⟨a,b,c,d,v :: .mk 13 0 0 [] l [] []::q,H,g,u,m,U⟩=(if fB l v=true then bq ⟨a,b,c,d,q,H,g,u,m,U⟩ [cG [lV (eC (lV l (cw l v))) 1]]else bq ⟨a,b,c,d,q,H,g,u,m,U⟩ [cG []]):=by unfold aJ;rw[R6];rfl
 rw[e];have hk:∀(e:Int)(S':ct),cJ 94 ⟨a,b,c,d,q,H,g,u,m,U⟩ [.c (aW (.mk 2 V 62 T [])),.c (.sl 7 (aa [v,.mk 13 0 0 [] l [] []]))] (ag e) S'->cJ 58 ⟨a,b,c,d,v :: .mk 13 0 0 [] l [] []::q,H,g,u,m,U⟩ [.c (aW (.mk 2 V 62 T []))] (ag e) S':=λe S' h =>
  rG _ _ 2 V 62 T _ [_,_] q _ bT (by rw[R6];rfl) (by show List.length (v::Vl.mk 13 0 0 [] l [] []::q)<=_;simp only[aac];omega) h
 by_cases h:fB l v=true
 ·rw[if_pos h];have O:∃x,l[cw l v]?=some x:=by
   unfold fB at h;cases hh:l[cw l v]? with
   |none=>rw[hh]at h;cases h
   |some x=>exact⟨x,Z⟩
  obtain⟨x,O⟩:=O;have W:=aaB O;obtain⟨y,z,rfl,hy,SW⟩:=oU ((fN _ l).1 Q x W);rw[h]at M;rw[WM O,show lV (eC (bA y z)) 1=z from rfl];have hsn:eP z=true:=by
   have:∀{l:L Vl}{x:Vl},eg l=true->x∈l->eP x=true:=by
    intro l
    induction l with
    |nil=>intro x _ h;simp at h
    |cons y l ih =>
     intro x h O;simp only[eg,aai]at h;rcases List.mem_cons.1 O with rfl|O
     ·exact h.1
     ·exact ih h.2 O
   have h1:=this hls W;simp[bA,eP,eg]at h1;exact h1.2
  have Lv:=fy W;have hz2:aM z<=aM (bA y z):=by simp only[bA,aM,aO];omega
  obtain⟨K,I,G,E,Y,D,C⟩:=v;exact⟨hk _ _ (Qm ⟨a,b,c,d,q,H,g,u,m,U⟩ V T K I G E Y D C 13 0 0 [] l [] [] (cw l (.mk K I G E Y D C)) M y y z [] 11 0 0 [] [] O bn cc),cu (S:=⟨a,b,c,d,q,H,g,u,m,U⟩) (fU (bK hg) (jw ⟨SW,hsn⟩)) hq⟩
 ·rw[if_neg h];rw[show fB l v=false by simpa using h]at M;obtain⟨K,I,G,E,Y,D,C⟩:=v;exact⟨hk _ _ (Qn ⟨a,b,c,d,q,H,g,u,m,U⟩ V T K I G E Y D C 13 0 0 [] l [] [] _ M cc),cu (S:=⟨a,b,c,d,q,H,g,u,m,U⟩) (fU (bK hg) nW) hq⟩
def Xc{t:Ty}(A:fY t=true)(Q:ig t=false){a b:Vl}(h1:bL a t=true)(h2:bL b t=true)(h:¬dR a b<0)(Y:dR a b≠0):dR b a<0:=by
 obtain⟨g,_⟩:=Bf a b b t A Q h1 h2 h2;omega
def ud{x y:Vl}{l:L Vl}(h:dR (mD x) (mD y)<0)(U:y8 (y::l)=true):y8 (x::y::l)=true:=by
 rw[y8];simp only[aai,aeH];exact⟨h,U⟩
def zY{x y:Vl}{l:L Vl}(U:y8 (x::y::l)=true):dR (mD x) (mD y)<0/\y8 (y::l)=true:=by
 rw[y8]at U;simpa only[aai,aeH]using U
def Qo{t u:Ty}(A:fY t=true)(Q:ig t=false){k:Vl}(P:bL k t=true)(y:Vl):∀(l:L Vl),aS l (.mk 11 [t,u])=true->y8 l=true->fB l k=false->y8 (l.take (cw l k)++bA k y::l.drop (cw l k))=true
 |[],_,_,_=>rfl
 |x::l,hA,hu,hf=>by
  have O:bL x (.mk 11 [t,u])=true/\aS l (.mk 11 [t,u])=true:=by simpa[aS]using hA
  obtain⟨N,C,rfl,W,_⟩:=oU O.1;by_cases D:dR N k<0
  ·have Y:cw (bA N C::l) k=cw l k+1:=by simp only[cw,yp,D,if_true]
   have V:fB l k=false:=by
    unfold fB at hf ⊢;rw[Y]at hf;simpa using hf
   rw[Y];cases l with
   |nil=>exact ud (show dR N k<0 from D) Z
   |cons z r =>
    have U:=Qo A Q P y (z::r) O.2 (zY hu).2 V;have T:=(zY hu).1;show y8 (bA N C::((z::r).take (cw (z::r) k)++bA k y::(z::r).drop (cw (z::r) k)))=true;generalize cw (z::r) k=i at U;cases i with
    |zero=>exact ud (show dR N k<0 from D) U
    |succ j=>exact ud T U
  ·have Y:cw (bA N C::l) k=0:=by simp only[cw,yp,D,aft]
   rw[Y];have M:dR N k≠0:=by
    unfold fB at hf;rw[Y]at hf;have S:decide (dR N k=0)=false:=hf;exact of_decide_eq_false S
   exact ud (show dR k N<0 from Xc A Q W P D M) hu
def Qp{t u:Ty}(A:fY t=true)(Q:ig t=false):∀(l:L Vl)(i:Nat),aS l (.mk 11 [t,u])=true->y8 l=true->y8 (l.take i++l.drop (i+1))=true
 |[],i,_,_=>by simp[y8]
 |x::l,0,hA,hu=>by
  cases l with
  |nil=>rfl
  |cons z r=>exact(zY hu).2
 |x::l,i+1,hA,hu=>by
  have W:bL x (.mk 11 [t,u])=true/\aS l (.mk 11 [t,u])=true:=by simpa[aS]using hA
  cases l with
  |nil=>simp[y8]
  |cons z r =>
   have Y:=Qp A Q (z::r) i W.2 (zY hu).2;show y8 (x::((z::r).take i++(z::r).drop (i+1)))=true;cases i with
   |zero =>
    cases r with
    |nil=>rfl
    |cons w r=>exact ud (Qj A Q (z::w::r) x hA hu w cS) Y
   |succ j=>exact ud (zY hu).1 Y
def R8{t u:Ty}(A:fY t=true)(Q:ig t=false){k:Vl}(D:bL k t=true):∀(l:L Vl),aS l (.mk 11 [t,u])=true->y8 l=true->fB l k=true->cw (l.take (cw l k)++l.drop (cw l k+1)) k=cw l k/\fB (l.take (cw l k)++l.drop (cw l k+1)) k=false
 |[],_,_,hf=>by simp[fB]at hf
 |x::l,hA,hu,hf=>by
  have U:bL x (.mk 11 [t,u])=true/\aS l (.mk 11 [t,u])=true:=by simpa[aS]using hA
  obtain⟨N,C,rfl,W,_⟩:=oU U.1;have M:y8 l=true:=by
   cases l with
   |nil=>rfl
   |cons z r=>exact(zY hu).2
  by_cases S:dR N k<0
  ·have G:∀m:L Vl,cw (bA N C::m) k=cw m k+1:=λm=>by simp only[cw,yp,S,if_true]
   have V:∀m:L Vl,fB (bA N C::m) k=fB m k:=λm=>by unfold fB;rw[G];rfl
   rw[V]at hf;have P:=R8 A Q D l U.2 M hf;rw[G];show cw (bA N C::(l.take (cw l k)++l.drop (cw l k+1))) k=cw l k+1/\fB (bA N C::(l.take (cw l k)++l.drop (cw l k+1))) k=false;rw[G,V];exact⟨by rw[P.1],P.2⟩
  ·have G:cw (bA N C::l) k=0:=by simp only[cw,yp,S,aft]
   unfold fB at hf;rw[G]at hf;have K:dR N k=0:=aeg hf;have T:N=k:=(Bf N k k t A Q W D D).zero.1 K;subst T;rw[G];show cw l N=0/\fB l N=false;cases l with
   |nil=>exact⟨Z,Z⟩
   |cons z r =>
    obtain⟨Y,J,rfl,O,_⟩:=oU ((fN _ _).1 U.2 z cS);have p:dR N Y<0:=(zY hu).1;have g:=Bf N Y Y t A Q W O O;have I:dR Y N>0:=by have:=g.neg;omega
    have h1:cw (bA Y J::r) N=0:=by exact if_neg (show ¬dR Y N<0 by omega)
    refine⟨h1,?_⟩;unfold fB;rw[h1];show decide (dR Y N=0)=false;exact aap bn
def nv{t:Ty}:∀(a b:L Vl),aS (a++b) t=(aS a t&&aS b t)
 |[],b=>by simp[aS]
 |x::a,b=>by simp only[adU,aS,nv a b,ahv]
def qx:∀(a b:L Vl),eg (a++b)=(eg a&&eg b)
 |[],b=>by simp[eg]
 |x::a,b=>by simp only[adU,eg,qx a b,ahv]
def nw:∀(a b:L Vl),aO (a++b)=aO a+aO b
 |[],b=>by simp[aO]
 |x::a,b=>by simp only[adU,aO,nw a b];omega
def xz{t:Ty}{l:L Vl}(h:aS l t=true)(i:Nat):aS (l.take i) t=true/\aS (l.drop i) t=true:=by
 have e:=nv (t:=t) (l.take i) (l.drop i);rw[afk,h]at e;simpa using e.symm
def Cp{l:L Vl}(h:eg l=true)(i:Nat):eg (l.take i)=true/\eg (l.drop i)=true:=by
 have e:=qx (l.take i) (l.drop i);rw[afk,h]at e;simpa using e.symm
def xB(l:L Vl)(i:Nat):aO (l.take i)+aO (l.drop i)=aO l:=by
 have e:=nw (l.take i) (l.drop i);rw[afk]at e;omega
def Ky:cr 63=3:=by decide +kernel
def Kz(S:ct)(I:Int)(A:L UInt8)(E:L Nd)(codes:L (L Ty->CR))(B s:L Ty)(r:L Ty×Bool)(hf:bW 63 E=some B)(hs:ep s S.st)(hl:s.length<=340)(hg:r.1.all bB=true)(hc:cT 63 codes B s=(r,0)):bh I A 63 E S/\bY S r (aJ 63 E S):=by
 obtain⟨a,b,c,d,st,H,g,u,m,U⟩:=S;obtain⟨rfl,rfl⟩:=cQ hf bT;have fj:=bP hs;simp only at hs fj;rcases s with _|⟨t1,_|⟨t2,_|⟨t3,s⟩⟩⟩
 ·cases hc
 ·cases hc
 ·cases hc
 obtain⟨v,q0,rfl,hv,pV⟩:=bl hs;obtain⟨w,q1,rfl,hw,hq1⟩:=bl pV;obtain⟨z,q,rfl,hz,hq⟩:=bl hq1;have f1:=cW hv.1;have f2:=cW hw.1;have f3:=cW hz.1;obtain⟨T2,D1⟩:=t2;obtain⟨T3,ts3⟩:=t3;simp only[aac]at fj hl;have dA:(if T2=9/\T3=13/\dh t1 (aE (.mk T3 ts3) 0)=true/\dh (aE (.mk T2 D1) 0) (aE (.mk T3 ts3) 1)=true then eT (.mk T3 ts3::s)else aR 5)=(r,0):=hc;split at dA;rotate_left
 ·cases dA
 rename_i c1;cases dA;obtain⟨rfl,rfl,c2,c3⟩:=c1;obtain⟨t0,rfl,ok0⟩:=fJ (cH f2.1) bT;obtain⟨t,t',rfl,R1,X0⟩:=fz (cH f3.1) bT;have et:t1=t:=(gF _ _).1 c2;have et2:t0=t':=(gF _ _).1 c3;subst et et2;obtain⟨l,rfl,Ag,V,Zp,hls⟩:=D7 f3.2.1 f3.2.2;have hsw:=hz.2;simp only[aM,bz,aU,aad]at hsw;have hsv:=hv.2;have G:=R7 f3.1;have P:=Ga G.1 G.2 V Zp f1.2.1 Ag bn;have Zk:=Gb l v;have Px:=xB l (cw l v);have NN:=xB l (cw l v+1);have DU:=xz V (cw l v);have Lh:=xz V (cw l v+1);have W:=Cp hls (cw l v);have Q:=Cp hls (cw l v+1);have p:∀(e:Int)(S':ct),cJ 94 ⟨a,b,c,d,q,H,g,u,m,U⟩ [.c (aW (.mk 2 I 63 A [])),.c (.sl 7 (aa [v,w,.mk 13 0 0 [] l [] []]))] (ag e) S'->cJ 58 ⟨a,b,c,d,v::w :: .mk 13 0 0 [] l [] []::q,H,g,u,m,U⟩ [.c (aW (.mk 2 I 63 A []))] (ag e) S':=λe S' h =>
  rG _ _ 2 I 63 A _ [_,_,_] q _ bT (by rw[Ky];rfl) (by show List.length (v::w::Vl.mk 13 0 0 [] l [] []::q)<=_;simp only[aac];omega) h
 unfold bh;rcases R9 f2.2.1 f2.2.2 with rfl|⟨y,rfl,hy⟩
 ·have e:aJ 63 [] ⟨a,b,c,d,v::cG [] :: .mk 13 0 0 [] l [] []::q,H,g,u,m,U⟩=bq ⟨a,b,c,d,q,H,g,u,m,U⟩ [.mk 13 0 0 [] (if fB l v=true then l.take (cw l v)++l.drop (cw l v+1)else l) [] []]:=by unfold aJ;rw[Ky];rfl
  rw[e];by_cases h:fB l v=true
  ·rw[if_pos h];have Zq:=Qp G.1 G.2 l (cw l v) V Zp;rw[h]at P;have hi:cw l v<l.length:=by
    unfold fB at h;cases hh:l[cw l v]? with
    |none=>rw[hh]at h;cases h
    |some x=>exact(List.getElem?_eq_some_iff.1 hh).1
   have NO:=Be (l:=l.take (cw l v)++l.drop (cw l v+1)) (t:=t1) (u:=t0) abP (by rw[nv,DU.1,Lh.2];rfl) Zq (by rw[qx,W.1,Q.2];rfl);have T:aM (.mk 13 0 0 [] (l.take (cw l v)++l.drop (cw l v+1)) [] [])<=8589934593:=by simp only[aM,nw,bz,aU,aad];omega
   refine⟨p _ _ ?_,cu (S:=⟨a,b,c,d,q,H,g,u,m,U⟩) (fU (bK hg) NO) hq⟩;clear p e hv hs hc Px NN DU Lh W Q NO Zq;obtain⟨J,O,N,M,Y,D,K⟩:=v;cases l with
   |nil=>simp at hi
   |cons x l=>exact NP ⟨a,b,c,d,q,H,g,u,m,U⟩ I A J O N M Y D K 9 0 0 [] [] [] 13 0 0 [] [] [] x l aaQ _ (by simpa using hi) P T cc
  ·rw[if_neg h];rw[show fB l v=false by simpa using h]at P;refine⟨p _ _ ?_,cu (S:=⟨a,b,c,d,q,H,g,u,m,U⟩) (fU (bK hg) (Be Ag V Zp hls)) hq⟩;have T:aM (.mk 13 0 0 [] l [] [])<=8589934593:=by simp only[aM,bz,aU,aad];omega
   clear p e hv hs hc Px NN DU Lh W Q;obtain⟨J,O,N,M,Y,D,K⟩:=v;cases l with
   |nil=>exact NQ ⟨a,b,c,d,q,H,g,u,m,U⟩ I A J O N M Y D K 9 0 0 [] [] [] 13 0 0 [] [] [] _ P cc
   |cons x l=>exact NR ⟨a,b,c,d,q,H,g,u,m,U⟩ I A J O N M Y D K 9 0 0 [] [] [] 13 0 0 [] [] [] x l aaQ _ P T cc
 ·have e:aJ 63 [] ⟨a,b,c,d,v::cG [y] :: .mk 13 0 0 [] l [] []::q,H,g,u,m,U⟩=(if 24<=((if fB l v=true then l.take (cw l v)++l.drop (cw l v+1)else l)).length then((13,⟨a,b,c,d,q,H,g,u,m,U⟩):MR)else bq ⟨a,b,c,d,q,H,g,u,m,U⟩ [.mk 13 0 0 [] (((if fB l v=true then l.take (cw l v)++l.drop (cw l v+1)else l)).take (cw l v)++bA v y::((if fB l v=true then l.take (cw l v)++l.drop (cw l v+1)else l)).drop (cw l v)) [] []]):=by unfold aJ;rw[Ky];rfl
  have hsy:=hw.2;simp only[cG,aM,aO,bz,aU,aad]at hsy;have NS:=kO f1.2 hy;by_cases h:fB l v=true
  ·rw[if_pos h]at e;have hi:cw l v<l.length:=by
    unfold fB at h;cases hh:l[cw l v]? with
    |none=>rw[hh]at h;cases h
    |some x=>exact(List.getElem?_eq_some_iff.1 hh).1
   have hXl:(l.take (cw l v)++l.drop (cw l v+1)).length+1=l.length:=by rw[aaz,aeD,aeI];omega
   have hXa:aS (l.take (cw l v)++l.drop (cw l v+1)) (.mk 11 [t1,t0])=true:=by rw[nv,DU.1,Lh.2];rfl
   have hXs:eg (l.take (cw l v)++l.drop (cw l v+1))=true:=by rw[qx,W.1,Q.2];rfl
   have hXu:=Qp G.1 G.2 l (cw l v) V Zp;have hsk:=R8 G.1 G.2 f1.2.1 l V Zp h;have Zq:=Qo G.1 G.2 f1.2.1 y _ hXa hXu hsk.2;rw[hsk.1]at Zq;have hXz:aO (l.take (cw l v)++l.drop (cw l v+1))<=2000000000:=by rw[nw];omega
   rw[if_neg bn]at e;rw[e];rw[h]at P;generalize hX:l.take (cw l v)++l.drop (cw l v+1)=X at *;have c1:=xz hXa (cw l v);have c2:=Cp hXs (cw l v);have c3:=xB X (cw l v);have NO:=Be (t:=t1) (u:=t0) aaS (show aS (X.take (cw l v)++bA v y::X.drop (cw l v)) _=true by rw[nv,c1.1,aS,NS.1,c1.2];rfl) Zq (by rw[qx,c2.1,eg,NS.2,c2.2];rfl);have T:aM (.mk 13 0 0 [] (X.take (cw l v)++bA v y::X.drop (cw l v)) [] [])<=8589934593:=by simp only[bA,aM,nw,aO,bz,aU,aad];omega
   refine⟨p _ _ ?_,cu (S:=⟨a,b,c,d,q,H,g,u,m,U⟩) (fU (bK hg) NO) hq⟩;subst hX;clear p e hv hs hc Px NN DU Lh W Q NO Zq c1 c2 c3 hXa hXs hXu hsk hXz NS;obtain⟨J,O,N,M,Y,D,K⟩:=v;rcases l with _|⟨x,_|⟨x2,l⟩⟩
   ·simp at hi
   ·have h0:cw [x] (.mk J O N M Y D K)=0:=by simpa using hi
    rw[h0]at P T ⊢;exact KA ⟨a,b,c,d,q,H,g,u,m,U⟩ I A J O N M Y D K 9 0 0 [] [] [] 13 0 0 [] [] [] x y P T cc
   ·exact KB ⟨a,b,c,d,q,H,g,u,m,U⟩ I A J O N M Y D K 9 0 0 [] [] [] 13 0 0 [] [] [] x (x2::l) (by simp only[aac]at Ag ⊢;omega) y _ (by simpa using hi) cS (by simp only[aac]at Ag ⊢;omega) P T cc
  ·rw[if_neg h]at e;have h':fB l v=false:=by simpa using h
   rw[h']at P;rw[e];by_cases C:24<=l.length
   ·rw[if_pos C];refine⟨p _ _ ?_,.inr (.inr Z)⟩;clear p e hv hs hc Px NN DU Lh W Q NS;obtain⟨J,O,N,M,Y,D,K⟩:=v;cases l with
    |nil=>simp at C
    |cons x l=>exact KC ⟨a,b,c,d,q,H,g,u,m,U⟩ I A J O N M Y D K 9 0 0 [] [] [] 13 0 0 [] [] [] x l aaQ y _ acR P cc
   ·rw[if_neg C];have Zq:=Qo G.1 G.2 f1.2.1 y l V Zp h';have NO:=Be (t:=t1) (u:=t0) aaS (show aS (l.take (cw l v)++bA v y::l.drop (cw l v)) _=true by rw[nv,DU.1,aS,NS.1,DU.2];rfl) Zq (by rw[qx,W.1,eg,NS.2,W.2];rfl);have T:aM (.mk 13 0 0 [] (l.take (cw l v)++bA v y::l.drop (cw l v)) [] [])<=8589934593:=by simp only[bA,aM,nw,aO,bz,aU,aad];omega
    refine⟨p _ _ ?_,cu (S:=⟨a,b,c,d,q,H,g,u,m,U⟩) (fU (bK hg) NO) hq⟩;clear p e hv hs hc Px NN DU Lh W Q NO Zq NS;obtain⟨J,O,N,M,Y,D,K⟩:=v;cases l with
    |nil=>exact NT ⟨a,b,c,d,q,H,g,u,m,U⟩ I A J O N M Y D K 9 0 0 [] [] [] 13 0 0 [] [] [] y P T cc
    |cons x l=>exact NU ⟨a,b,c,d,q,H,g,u,m,U⟩ I A J O N M Y D K 9 0 0 [] [] [] 13 0 0 [] [] [] x l aaQ y _ (by simpa using Zk) acR P T cc
def Hx(P:Int)(W:P=69\/P=70\/P=71\/P=72\/P=93\/P=94\/P=95)(S:ct)(Y:Int)(T:L UInt8)(J:L Nd)(D:aU J<=8589934593)(codes:L (L Ty->CR))(B s:L Ty)(r:L Ty×Bool)(hf:bW P J=some B)(G:ep s S.st)(E:s.length<=340)(p:r.1.all bB=true)(A:bX P s=(r,0)):bh Y T P J S/\bY S r (aJ P J S):=by
 rcases W with rfl|rfl|rfl|rfl|rfl|rfl|rfl
 ·exact TQ S Y T J B s r hf G E p A
 ·exact TR S Y T J B s r hf G E p A
 ·exact TS S Y T J B s r hf G E p A
 ·exact TT S Y T J B s r hf G E p A
 ·exact TU S Y T J B s r hf G E p A
 ·exact TV S Y T J B s r hf G E p A
 ·exact TW S Y T J B s r hf G E p A
def Qq(P:Int)(W:P=73\/P=74\/P=75\/P=76\/P=77\/P=78\/P=79\/P=80\/P=81\/P=82)(S:ct)(Y:Int)(T:L UInt8)(J:L Nd)(D:aU J<=8589934593)(codes:L (L Ty->CR))(B s:L Ty)(r:L Ty×Bool)(hf:bW P J=some B)(G:ep s S.st)(E:s.length<=340)(p:r.1.all bB=true)(A:cx P B s=(r,0)):bh Y T P J S/\bY S r (aJ P J S):=by
 rcases W with rfl|rfl|rfl|rfl|rfl|rfl|rfl|rfl|rfl|rfl
 ·exact TX S Y T J B s r hf G E p A
 ·exact NV S Y T J B s r hf G E p A
 ·exact NW S Y T J B s r hf G E p A
 ·exact NX S Y T J B s r hf G E p A
 ·exact TY S Y T J B s r hf G E p A
 ·exact TZ S Y T J B s r hf G E p A
 ·exact Xd S Y T J B s r hf G E p A
 ·exact KD S Y T J B s r hf G E p A
 ·exact Qr S Y T J B s r hf G E p A
 ·exact KE S Y T J D B s r hf G E p A
def NY(P:Int)(W:P=84\/P=85\/P=86\/P=87\/P=88\/P=89\/P=90\/P=91\/P=92)(S:ct)(U:qb S.self S.iE S.iF S.balance=true)(C:0<=S.az/\S.az<=bN)(Y:Int)(T:L UInt8)(J:L Nd)(D:aU J<=8589934593)(codes:L (L Ty->CR))(B s:L Ty)(r:L Ty×Bool)(hf:bW P J=some B)(G:ep s S.st)(E:s.length<=340)(p:r.1.all bB=true)(A:cg P B s=(r,0)):bh Y T P J S/\bY S r (aJ P J S):=by
 rcases W with rfl|rfl|rfl|rfl|rfl|rfl|rfl|rfl|rfl
 ·exact Ku S U C Y T J D B s r hf G E p A
 ·exact Qc S U C Y T J D B s r hf G E p A
 ·exact NA S U C Y T J D B s r hf G E p A
 ·exact Qf S U C Y T J D B s r hf G E p A
 ·exact F7 S U C Y T J D B s r hf G E p A
 ·exact Qa S U C Y T J D B s r hf G E p A
 ·exact Kq S U C Y T J D B s r hf G E p A
 ·exact Ks S U C Y T J D B s r hf G E p A
 ·exact Hr S U C Y T J D B s r hf G E p A
def NZ(P:Int)(W:P=59\/P=61\/P=62\/P=63)(S:ct)(Y:Int)(T:L UInt8)(J:L Nd)(D:aU J<=8589934593)(codes:L (L Ty->CR))(B s:L Ty)(r:L Ty×Bool)(hf:bW P J=some B)(G:ep s S.st)(E:s.length<=340)(p:r.1.all bB=true)(A:cT P codes B s=(r,0)):bh Y T P J S/\bY S r (aJ P J S):=by
 rcases W with rfl|rfl|rfl|rfl
 ·exact Qh S Y T J codes B s r hf G E p A
 ·exact NJ S Y T J codes B s r hf G E p A
 ·exact TP S Y T J codes B s r hf G E p A
 ·exact Kz S Y T J codes B s r hf G E p A
def Hy(P:Int)(W:P=46\/P=47\/P=48\/P=49\/P=50\/P=51\/P=53\/P=54\/P=56\/P=57)(S:ct)(Y:Int)(T:L UInt8)(J:L Nd)(D:aU J<=8589934593)(codes:L (L Ty->CR))(B s:L Ty)(r:L Ty×Bool)(hf:bW P J=some B)(G:ep s S.st)(E:s.length<=340)(p:r.1.all bB=true)(A:aX P codes B s=(r,0)):bh Y T P J S/\bY S r (aJ P J S):=by
 rcases W with rfl|rfl|rfl|rfl|rfl|rfl|rfl|rfl|rfl|rfl
 ·exact Qs S Y T J codes B s r hf G E p A
 ·exact KF S Y T J codes B s r hf G E p A
 ·exact T0 S Y T J codes B s r hf G E p A
 ·exact T4 S Y T J codes B s r hf G E p A
 ·exact Qt S Y T J codes B s r hf G E p A
 ·exact N0 S Y T J codes B s r hf G E p A
 ·exact Qu S Y T J codes B s r hf G E p A
 ·exact Qv S Y T J codes B s r hf G E p A
 ·exact T5 S Y T J codes B s r hf G E p A
 ·exact Qg S Y T J codes B s r hf G E p A
mutual
def Gc:∀(t:Ty)(d n U W m:Int),U<=d->W<=n->fC t d n=(true,m)->fC t U W=(true,m-n+W)
 |.mk T J,d,n,U,W,m,O,B,h=>by
  simp only[fC]at h ⊢;by_cases c:d>24\/n+1>300\/arity T≠J.length
  ·rw[if_pos c]at h;cases h
  rw[if_neg c]at h;have H:¬(U>24\/W+1>300\/arity T≠J.length):=by
   rintro(c'|c'|c')
   ·exact c (.inl bn)
   ·exact c (.inr (.inl bn))
   ·exact c (.inr (.inr c'))
  rw[if_neg H];cases e:ey J (d+1) (n+1)with
  |mk b E =>
   rw[e]at h;cases b with
   |false=>cases h
   |true =>
    have h2:=Dd J (d+1) (n+1) (U+1) (W+1) E bn bn e;rw[h2];simp only[aff]at h ⊢;exact⟨h.1,bn⟩
def Dd:∀(l:L Ty)(d n U W m:Int),U<=d->W<=n->ey l d n=(true,m)->ey l U W=(true,m-n+W)
 |[],d,n,U,W,m,O,B,h=>by
  simp only[ey,aff]at h ⊢;exact⟨trivial,bn⟩
 |t::l,d,n,U,W,m,O,B,h=>by
  simp only[ey]at h ⊢;cases e:fC t d n with
  |mk b E =>
   rw[e]at h;cases b with
   |false=>cases h
   |true =>
    have h2:=Gc t d n U W E O B e;rw[h2];have V:=Dd l d E U (E-n+W) m O bn h;show ey l U (E-n+W)=_;rw[V];simp only[aff];exact⟨trivial,bn⟩
end
def N1{t:Ty}{d n m:Int}(h:fC t d n=(true,m)):n<=299/\n<m:=by
 have h1:n<=299:=by
  obtain⟨T,J⟩:=t;simp only[fC]at h;by_cases c:d>24\/n+1>300\/arity T≠J.length
  ·simp_all
  ·omega
 have h2:=(tL t d n bn).1;rw[h]at h2;exact⟨h1,h2⟩
def Gd:∀{l:L Ty}{d n m:Int}{x:Ty},ey l d n=(true,m)->0<=n->x∈l->∃W U,0<=W/\fC x d W=(true,U)
 |t::l,d,n,m,x,h,B,O=>by
  simp only[ey]at h;cases e:fC t d n with
  |mk b U =>
   rw[e]at h;cases b with
   |false=>cases h
   |true =>
    rcases List.mem_cons.1 O with rfl|O
    ·exact⟨n,U,B,e⟩
    ·have:=(N1 e).2;exact Gd (l:=l) h bn O
def qy{T:Int}{J:L Ty}(h:bB (.mk T J)=true):∀x∈J,bB x=true:=by
 intro x O;unfold bB at h;simp only[fC]at h;split at h
 ·cases h
 ·cases e:ey J (1+1) (0+1)with
  |mk b U =>
   rw[e]at h;cases b with
   |false=>cases h
   |true =>
    obtain⟨W,p,h1,h2⟩:=Gd e bn O;have V:=Gc x _ W 1 0 p bn bn h2;unfold bB;rw[V]
def Qw{J:L Ty}(h:bB (.mk 13 J)=true):bB (.mk 11 J)=true:=by
 unfold bB at h ⊢;simp only[fC]at h ⊢;split at h
 ·cases h
 ·rename_i c;have Y:arity 13=2:=rfl;have W:arity 11=2:=rfl;rw[Y]at c;rw[W,if_neg c];cases e:ey J (1+1) (0+1)with
  |mk b U =>
   rw[e]at h;cases b with
   |false=>cases h
   |true=>rfl
def N3{T n p:Int}{s:L UInt8}{k:Nat}{d U:Int}(O:U<=d)(h:gp T n p s k d=0):gp T n p s k U=0:=by
 unfold gp at h ⊢;by_cases c:d>24
 ·omega
 rw[if_neg c]at h;rw[if_neg bn];exact h
mutual
def Qx:∀(n:Nd)(d U:Int),U<=d->eR n d=0->eR n U=0
 |.mk T n p s J,d,U,O,h=>by
  obtain⟨h1,h2⟩:=jT h;simp only[eR];rw[if_pos (N3 O h1)];exact xC J _ _ bn h2
def xC:∀(l:L Nd)(d U:Int),U<=d->dI l d=0->dI l U=0
 |[],_,_,_,_=>rfl
 |x::l,d,U,O,h=>by
  simp only[dI]at h ⊢;by_cases c:eR x d=0
  ·rw[if_pos c]at h;rw[if_pos (Qx x d U O c)];exact xC l d U O h
  ·rw[if_neg c]at h;exact absurd h c
end
def Ge:∀{l:L Nd}{x:Nd}{d:Int},dI l d=0->x∈l->eR x d=0
 |y::l,x,d,h,O=>by
  simp only[dI]at h;by_cases c:eR y d=0
  ·rw[if_pos c]at h;rcases List.mem_cons.1 O with rfl|O
   ·exact c
   ·exact Ge h O
  ·omega
def IW:∀{l:L Nd}{x:Nd},x∈l->many x<=cV l
 |y::l,x,O=>by
  simp only[cV];rcases List.mem_cons.1 O with rfl|O
  ·omega
  ·have:=IW O;omega
def jW(code:L Nd):Prop:=dY (.mk 3 0 0 [] code)=0
def yq{code:L Nd}:jW code↔dI code 2=0/\cV code<=299:=by
 unfold jW;rw[kf];simp only[many];constructor
 ·rintro⟨h1,h2⟩;exact⟨(jT h1).2,bn⟩
 ·rintro⟨h1,h2⟩;refine⟨?_,bn⟩;simp only[eR];rw[if_pos (by simp[gp,bN])];exact h1
def mW{code:L Nd}(h:jW code):cV code<=299:=(yq.1 h).2
def zi{code:L Nd}(h:jW code):aU code<=60300:=by
 have:=zV h;simp only[bM,aad]at this;omega
def qk{code:L Nd}{k N P:Int}{S:L UInt8}{J:L Nd}(h:jW code)(C:Nd.mk k N P S J∈code):jW J/\cV J+1<=cV code:=by
 obtain⟨h1,h2⟩:=yq.1 h;have V:=(jT (Ge h1 C)).2;have T:=IW C;simp only[many]at T;exact⟨yq.2 ⟨xC _ _ _ bn V,bn⟩,T⟩
def LJ{n:Nd}(h:dY n=0):jW (cI n):=by
 obtain⟨k,N,P,S,J⟩:=n;obtain⟨h1,h2⟩:=kf.1 h;simp only[many]at h2;exact yq.2 ⟨(jT h1).2,by simp only[cI];omega⟩
def CB(code:L Nd)(s Q:L Ty)(f':Bool):Prop:=cE code (s,false)=((Q,f'),0)
def FT(I:L Ty×Bool):List iJ->L Ty->Prop
 |[],s=>I=(s,false)
 |F::t,s=>s.length+cV F.code<=340/\jW F.code/\F.pos<=F.code.length/\∃Q f',CB (F.code.drop F.pos) s Q f'/\(f'=false ->
   (F.fin=0/\FT I t Q) \/
   (F.fin=1/\F.aside.length<=1/\∃u,ep u F.aside.reverse/\FT I t (u++Q)) \/
   (F.fin=2/\F.aside.length<=340/\∃Y u,Q=[Y]/\ep u F.aside.reverse/\FT I t (Y::u)) \/
   (F.fin=3/\∃e,(∀x∈F.aside,Fit e x)/\Q.length+1+cV F.code<=340/\(∃B V,CB F.code (e::Q) B V/\(V=false->B=Q))/\FT I t Q) \/
   (F.fin=4/\∃a A,Q=a::A/\bS a=2/\A.length+cV F.code<=340/\(∃B V,CB F.code A B V/\(V=false->B=a::A))/\FT I t A))
def Ye(F:iJ):Nat:=1+2*cV (F.code.drop F.pos)
def zh:List iJ->Nat
 |[]=>0
 |F::t=>Ye F+zh t
def Ex:∀t:List iJ,t.length<=zh t
 |[]=>aaj _
 |F::t=>by have:=Ex t;simp only[aac,zh,Ye];omega
def vi{a b:CR}{r:L Ty×Bool}(h:di a b=(r,0)):a.2=0/\(a.1.2=false->r=a.1):=by
 unfold di at h;split at h
 ·rename_i c;exact absurd (aeb Prod.snd h) c
 rename_i u;simp only[ne_eq,aey]at u;refine⟨u,λhf=>?_⟩;split at h
 ·rename_i c;exact absurd (aeb Prod.snd h) c
 rw[if_neg (by rw[hf];decide)]at h;split at h
 ·cases h;rfl
 ·cases h
def vj{a b:CR}{r:L Ty×Bool}(h:di a b=(r,0)):b.2=0/\(b.1.2=false->r=b.1):=by
 unfold di at h;split at h
 ·rename_i c;exact absurd (aeb Prod.snd h) c
 split at h
 ·rename_i c;exact absurd (aeb Prod.snd h) c
 rename_i u H;simp only[ne_eq,aey]at H;refine⟨H,λhf=>?_⟩;by_cases p:a.1.2=true
 ·simp_all
 rw[if_neg p]at h;split at h
 ·rename_i c4;cases h;have e:=(nh _ _).1 (c4.resolve_left (by rw[hf];decide));have W:a.1.2=false:=by simpa using p
  rw[Prod.ext_iff];exact⟨e,by rw[W,hf]⟩
 ·cases h
def BB{code:L Nd}{s:L Ty}(h:(cE code (s,false)).2=0):CB code s (cE code (s,false)).1.1 (cE code (s,false)).1.2:=by
 unfold CB;rw[<- h]
def Jq{I:L Ty×Bool}{H:List iJ}{c:L Nd}{T:L Ty}{r:L Ty×Bool}(Q:(cE c (T,false)).2=0)(C:(cE c (T,false)).1.2=false->r=(cE c (T,false)).1)(E:T.length+cV c<=340)(Y:jW c)
  (h:r.2=false->FT I H r.1):FT I (⟨c,0,0,[]⟩::H) T:=by
 refine⟨E,Y,aeE _,(cE c (T,false)).1.1,(cE c (T,false)).1.2,BB Q,λhf => .inl ⟨Z,?_⟩⟩;have e:=C hf;rw[e]at h;exact h hf
def abR(I:L Ty×Bool)(S:ct)(r:L Ty×Bool)(o:MR):Prop :=
 o.1=0/\∃F T,o.2.fr=F::S.fr/\jW F.code/\ep T o.2.st/\((r.2=false->FT I S.fr r.1)->FT I (F::S.fr) T)
def Comes(I:L Ty×Bool)(S:ct)(r:L Ty×Bool)(o:MR):Prop:=bY S r o\/abR I S r o\/aah o
def JI{P:Int}{J:L Nd}{B:L Ty}(h:bW P J=some B)(Y:gC P=[99]):∃p q r c,J=[.mk 3 p q r c]/\B=[]:=by
 obtain⟨h1,h2⟩:=kS h;rw[Y]at h1 h2;rcases J with _|⟨x,_|⟨y,l⟩⟩
 ·simp at h1
 ·obtain⟨T,N,p,q,xs⟩:=x;have V:(if T=3 then some []else none)=some B:=h2;split at V
  ·simp_all
  ·cases V
 ·simp at h1
def D8{P:Int}{J:L Nd}{B:L Ty}(h:bW P J=some B)(G:gC P=[99,99]):∃p q r c W V C c',J=[.mk 3 p q r c,.mk 3 W V C c']/\B=[]:=by
 obtain⟨h1,h2⟩:=kS h;rw[G]at h1 h2;rcases J with _|⟨x,_|⟨y,_|⟨z,l⟩⟩⟩
 ·simp at h1
 ·simp at h1
 ·obtain⟨T,N,p,q,xs⟩:=x;obtain⟨Y,Q,W,V,S⟩:=y;have U:(if T=3 then(if Y=3 then some []else none)else none)=some B:=h2;split at U
  ·simp_all
  ·cases U
 ·simp at h1
def Xe{P:Int}{J:L Nd}{B:L Ty}(h:bW P J=some B)(G:gC P=[116,116,99]):∃x y p q r c,J=[x,y,.mk 3 p q r c]/\(aP x).2=0/\(aP y).2=0/\B=[(aP x).1,(aP y).1]:=by
 obtain⟨h1,h2⟩:=kS h;rw[G]at h1 h2;rcases J with _|⟨x,_|⟨y,_|⟨z,_|⟨K,l⟩⟩⟩⟩
 ·simp at h1
 ·simp at h1
 ·simp at h1
 ·obtain⟨T,N,p,q,xs⟩:=x;obtain⟨Y,U,S,Q,W⟩:=y;obtain⟨V,I,D,H,M⟩:=z;have O:(if(aP (.mk T N p q xs)).2=0 then(if(aP (.mk Y U S Q W)).2=0 then(if V=3 then some ([]++[(aP (.mk T N p q xs)).1]++[(aP (.mk Y U S Q W)).1])else none)else none)else none)=some B:=h2;split at O
  ·grind
  ·cases O
 ·simp at h1
def D9:cr 52=1:=by decide +kernel
def Ea:cr 55=1:=by decide +kernel
def Eb:cr 58=1:=by decide +kernel
def Sa:cr 60=1:=by decide +kernel
def Ec:cr 64=1:=by decide +kernel
def Sb:cr 65=1:=by decide +kernel
def Sc:cr 66=0:=by decide +kernel
def Sd:cr 67=2:=by decide +kernel
def Se:cr 68=1:=by decide +kernel
def Gf:∀{l:L Vl}{x:Vl},eg l=true->x∈l->eP x=true
 |y::l,x,h,O=>by
  simp only[eg,aai]at h;rcases List.mem_cons.1 O with rfl|O
  ·exact h.1
  ·exact Gf h.2 O
def Zr{v:Vl}{t u:Ty}(h:bL v (.mk 14 [t,u])=true)(G:eP v=true):∃code,v = .mk 14 0 0 [] [] [t,u] code/\jW code/\(cE code ([t],false)).2=0/\((cE code ([t],false)).1.2=false->(cE code ([t],false)).1.1=[u])/\jN code=false:=by
 obtain⟨k,n,a,s,J,B,code⟩:=v;obtain⟨D,U,T⟩:=iS h;simp only[bS]at D;subst D;have S:B.length=2/\a=0/\n=0/\s=[]/\J.length=0:=by simpa[cz]using U
 obtain⟨Y,rfl,rfl,rfl,ha⟩:=S;obtain rfl:=List.length_eq_zero_iff.1 ha;rcases B with _|⟨Q,_|⟨P,_|⟨N,q⟩⟩⟩
 ·simp at Y
 ·simp at Y
 ·have h2:(dh t Q&&dh u P)=true:=by
   have V:=h;unfold bL at V;simp only[cz,bS,aE,au]at V;simpa using V
  rw[aai]at h2;obtain rfl:=(gF _ _).1 h2.1;obtain rfl:=(gF _ _).1 h2.2;rw[E1 14 0 0 [] [] t u code rfl]at G;simp only[aai,aaA,aeH,agn]at G;obtain⟨⟨W,H⟩,p⟩:=G;obtain⟨g1,_,_,_,O⟩:=uz W;rw[O]at W H;simp only[cI]at W H;refine⟨code,Z,g1,W,λhf=>?_,p⟩;rcases H with H|H
  ·simp_all
  ·exact(nh _ _).1 H
 ·simp at Y
end Go.Proofs
