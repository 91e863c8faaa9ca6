/- Package run: -/
import Derived.Test.YtdnpapgijbhofaaGreatDoorRunABRt
set_option linter.defProp false
set_option linter.unusedVariables false
set_option linter.unusedSimpArgs false
namespace Go.Proofs
open Go.cB
def qu{v:Vl}{t u:Ty}(h:bz v (.mk 13 [t,u])=true)(C:ey v=true):∃l,v = .mk 13 0 0 [] l [] []/\l.length<=24/\aJ l (.mk 11 [t,u])=true/\xX l=true/\ee l=true:=by obtain⟨k,n,a,s,args,types,H⟩:=v;obtain⟨E,D,_⟩:=jt h;simp only[cq]at E;subst E;simp[bX]at D;simp[bz,bX,cq,aG,aK]at h;obtain⟨rfl,rfl,rfl,rfl⟩:=D;simp[ey]at C;obtain⟨_,⟨⟨h1,h2⟩,U⟩,P⟩:=h;exact⟨args,by rw[h1],h2,U,P,C⟩
def zb{l:L Vl}{t u:Ty}(V:l.length<=24)(h:aJ l (.mk 11 [t,u])=true)(W:xX l=true)(C:ee l=true):bz (.mk 13 0 0 [] l [] []) (.mk 13 [t,u])=true/\ey (.mk 13 0 0 [] l [] [])=true:=by simp[bz,bX,cq,aG,aK,ey,h,C,V,W]
def OD{P:Int}{args:L Nd}{types:L Ty}(h:br P args=some types)(C:fF P=[116,116]):∃x y,args=[x,y]/\(aO x).2=0/\(aO y).2=0/\types=[(aO x).1,(aO y).1]:=by
 obtain⟨h1,h2⟩:=jx h;rw[C]at h1 h2;rcases args with _|⟨x,_|⟨y,_|⟨z,r⟩⟩⟩
 simp at h1;simp at h1;obtain⟨u,N,p,q,xs⟩:=x;obtain⟨Y,V,U,T,W⟩:=y;have S:(if(aO (.mk u N p q xs)).2=0 then(if(aO (.mk Y V U T W)).2=0 then some ([]++[(aO (.mk u N p q xs)).1]++[(aO (.mk Y V U T W)).1])else none)else none)=some types:=h2;split at S;grind;cases S;simp at h1
def HO:bD 57=2:=by decide +kernel
def HP:bD 59=1:=by decide +kernel
def HQ:bD 61=0:=by decide +kernel
def M0(S:bE)(G:Int)(Y:L UInt8)(args:L Nd)(codes:L (L Ty->CR))(types s:L Ty)(r:L Ty×Bool)(hf:br 57 args=some types)(C:cD s S.st)(hl:s.length<=340)(hg:r.1.all bg=true)(D:cF 57 codes types s=(r,0)):aW G Y 57 args S/\bG S r (aq 57 args S):=by
 obtain⟨a,b,c,d,st,I,g,u,m,B⟩:=S;obtain⟨rfl,rfl⟩:=ct hf cc;have Q:=bq C;simp only at C Q;rcases s with _|⟨U,_|⟨t2,s⟩⟩
 cases D;cases D;obtain⟨v,q0,rfl,N,oU⟩:=aF C;obtain⟨w,q,rfl,M,hq⟩:=aF oU;have f1:=bO N.1;have A:=bO M.1;obtain⟨W,J⟩:=t2;simp only[aaa]at Q hl;have V:(if W=10/\cw U (aG (.mk W J) 0)=true then eB (.mk W J::s)else aX 5)=(r,0):=D;split at V;rotate_left;cases V;rename_i c1;cases V;obtain⟨rfl,c2⟩:=c1;obtain⟨t,rfl,AY⟩:=cO (bl A.1) cc;have et:U=t:=(eg _ _).1 c2;subst et;obtain⟨l,rfl,tV,P,E⟩:=nU A.2.1 A.2.2;have hsz:=N.2;have ZW:=M.2;simp only[aE,aU,aM,aab]at ZW;unfold aW;have e:aq 57 [] ⟨a,b,c,d,v :: .mk 10 0 0 [] l [] []::q,I,g,u,m,B⟩=(if 24<=l.length then(13,⟨a,b,c,d,q,I,g,u,m,B⟩)else aQ ⟨a,b,c,d,q,I,g,u,m,B⟩ [.mk 10 0 0 [] (v::l) [] []]):=by unfold aq;rw[HO];rfl
 rw[e];have K:=f1.2;have O:aJ (v::l) U=true:=by simp[aJ,K.1,P]
 have T:ee (v::l)=true:=by simp[ee,K.2,E]
 have qk:aE (.mk 10 0 0 [] (v::l) [] [])<=8589934593:=by simp only[aE,aB,aU,aM,aab];omega
 have H:∀(e:Int)(S':bE),b8 137 ⟨a,b,c,d,q,I,g,u,m,B⟩ [.c (aS (.mk 2 G 57 Y [])),.c (.sl 7 (aa [v,.mk 10 0 0 [] l [] []]))] (aA e) S'->b8 109 ⟨a,b,c,d,v :: .mk 10 0 0 [] l [] []::q,I,g,u,m,B⟩ [.c (aS (.mk 2 G 57 Y []))] (aA e) S':=λe S' h =>
  qb _ _ 2 G 57 Y _ [_,_] q _ cc (by rw[HO];rfl) (by show List.length (v::Vl.mk 10 0 0 [] l [] []::q)<=_;simp only[aaa];omega) h
 obtain⟨k1,n1,a1,s1,p,ag,au⟩:=v;by_cases h:24<=l.length;rw[if_pos h];exact⟨H _ _ (Kv ⟨a,b,c,d,q,I,g,u,m,B⟩ G Y k1 n1 a1 s1 p ag au 10 0 0 [] l [] [] h cm),.inr (.inr Z)⟩;rw[if_neg h];exact⟨H _ _ (Kw ⟨a,b,c,d,q,I,g,u,m,B⟩ G Y k1 n1 a1 s1 p ag au 10 0 0 [] l [] [] h qk cm),bP (S:=⟨a,b,c,d,q,I,g,u,m,B⟩) (dJ (bw hg) (yq ek O T)) hq⟩
def M1(S:bE)(G:Int)(Y:L UInt8)(args:L Nd)(codes:L (L Ty->CR))(types s:L Ty)(r:L Ty×Bool)(hf:br 59 args=some types)(C:cD s S.st)(H:s.length<=340)(E:r.1.all bg=true)(D:gK 59 codes types s=(r,0)):aW G Y 59 args S/\bG S r (aq 59 args S):=by
 obtain⟨a,b,c,d,st,I,g,u,m,B⟩:=S;obtain⟨rfl,rfl⟩:=ct hf cc;have U:=bq C;simp only at C U;cases s with
 |nil=>cases D
 |cons t s =>
 obtain⟨v,q,rfl,Q,hq⟩:=aF C;have O:=bO Q.1;obtain⟨T,ts⟩:=t;simp only[aaa]at U H;have W:(if T=6\/T=10\/T=13 then eB (.mk 4 []::s)else aX 5)=(r,0):=D;split at W;rotate_left;cases W;rename_i A;cases W;have hb:(vS v).length+(di v).length<=200:=by
  rcases A with rfl|rfl|rfl
  obtain⟨V,rfl,g1⟩:=vV O.2.1;simpa[vS,di]using g1;obtain⟨t,rfl,_⟩:=cO (bl O.1) cc;obtain⟨l,rfl,tV,_,_⟩:=nU O.2.1 O.2.2;simp[vS,di];omega;obtain⟨t,t',rfl,_,_⟩:=cJ (bl O.1) cc;obtain⟨l,rfl,tV,_,_,_⟩:=qu O.2.1 O.2.2;simp[vS,di];omega
 unfold aW;have e:aq 59 [] ⟨a,b,c,d,v::q,I,g,u,m,B⟩=aQ ⟨a,b,c,d,q,I,g,u,m,B⟩ [aI 4 (((vS v).length+(di v).length:Nat):Int)]:=by unfold aq;rw[HP];rfl
 rw[e];clear Q O C D;obtain⟨J,K,P,V,p,N,M⟩:=v;simp only[vS,di]at hb ⊢;exact⟨qb _ _ 2 G 59 Y _ [_] q _ cc (by rw[HP];rfl) (by show List.length (Vl.mk J K P V p N M::q)<=_;simp only[aaa];omega) (M3 ⟨a,b,c,d,q,I,g,u,m,B⟩ G Y J K P V p N M bn cm),bP (S:=⟨a,b,c,d,q,I,g,u,m,B⟩) (dJ (bw E) (iH cc hM (λ_=>by omega))) hq⟩
def Kx(S:bE)(G:Int)(Y:L UInt8)(args:L Nd)(codes:L (L Ty->CR))(types s:L Ty)(r:L Ty×Bool)(hf:br 61 args=some types)(C:cD s S.st)(V:s.length<=340)(Q:r.1.all bg=true)(D:gK 61 codes types s=(r,0)):aW G Y 61 args S/\bG S r (aq 61 args S):=by
 obtain⟨a,b,c,d,q,I,g,u,m,B⟩:=S;obtain⟨x,y,rfl,N,T,rfl⟩:=OD hf cc;have O:=bq C;simp only at C O;have W:(if eJ (aO x).1=true then eB (.mk 13 [(aO x).1,(aO y).1]::s)else aX 5)=(r,0):=D;split at W;rotate_left;cases W;cases W;unfold aW;have e:aq 61 [x,y] ⟨a,b,c,d,q,I,g,u,m,B⟩=aQ ⟨a,b,c,d,q,I,g,u,m,B⟩ [.mk 13 0 0 [] [] [] []]:=by unfold aq;rw[HQ];rfl
 rw[e];exact⟨qb _ _ 2 G 61 Y _ [] q _ cc (by rw[HQ];rfl) cm (Ky ⟨a,b,c,d,q,I,g,u,m,B⟩ G Y x y cm),bP (S:=⟨a,b,c,d,q,I,g,u,m,B⟩) (dJ (bw Q) (zb cc Z Z Z)) C⟩
def nJ{x:Vl}{t u:Ty}(h:bz x (.mk 11 [t,u])=true):∃y z,x=aY y z/\bz y t=true/\bz z u=true:=by
 obtain⟨k,n,a,s,args,types,H⟩:=x;obtain⟨E,D,_⟩:=jt h;subst E;simp[bX]at D;simp[bz,bX,cq,aK]at h;obtain⟨rfl,rfl,rfl,rfl⟩:=D;rcases args with _|⟨x,_|⟨y,_|⟨z,r⟩⟩⟩
 grind;grind;simp[cL]at h;exact⟨x,y,by rw[h.1];rfl,h.2.1,h.2.2⟩;grind
def vW(y z:Vl):lH (aY y z)=y:=rfl
def FZ{t:Ty}(D:eJ t=true)(A:fY t=false){a b c:Vl}(h1:bz a t=true)(h2:bz b t=true)(U:bz c t=true)(K:de a b<0)(W:de b c<0):de a c<0:=by obtain⟨_,_,_,_,g⟩:=vX a b c t D A h1 h2 U;have:=g.1 bn bn;omega
def M4{t u:Ty}(D:eJ t=true)(A:fY t=false):∀(l:L Vl)(x:Vl),aJ (x::l) (.mk 11 [t,u])=true->xX (x::l)=true->∀y∈l,de (lH x) (lH y)<0
 |[],x,_,_,y,G=>by simp at G
 |z::r,x,hA,hu,y,G=>by
  simp only[aJ,aak]at hA;simp only[xX,aak,abU]at hu;rcases List.mem_cons.1 G with rfl|Y
  omega;have S:=M4 D A r z (by simp only[aJ,aak];exact hA.2) (by simpa[xX]using hu.2) y Y;obtain⟨P,U,rfl,O,_⟩:=nJ hA.1;obtain⟨T,Q,rfl,B,_⟩:=nJ hA.2.1;have W:=(dM (.mk 11 [t,u]) r).1 hA.2.2 y Y;obtain⟨N,M,rfl,V,_⟩:=nJ W;exact FZ D A O B V hu.1 S
def OE{t u:Ty}(D:eJ t=true)(A:fY t=false){k:Vl}(E:bz k t=true):∀(l:L Vl),aJ l (.mk 11 [t,u])=true->xX l=true->∀(i:Nat) x,bJ l k<=i->l[i]?=some x->¬de (lH x) k<0
 |[],_,_,i,x,_,h=>by simp at h
 |z::l,hA,hu,i,x,hi,h=>by
  have Y:bz z (.mk 11 [t,u])=true/\aJ l (.mk 11 [t,u])=true:=by simpa[aJ]using hA
  have U:xX l=true:=by
   cases l with
   |nil=>rfl
   |cons y r=>simp only[xX,aak]at hu;simpa[xX]using hu.2
  by_cases B:de (lH z) k<0
  ·simp only[bJ,B,if_true]at hi;cases i with
   |zero=>omega
   |succ j=>exact OE D A E l Y.2 U j x bn nW
  cases i with
  |zero=>simp at h;subst h;exact B
  |succ j =>
   have V:=aap (show l[j]?=some x by simpa using h);have H:=M4 D A l z hA hu x V;obtain⟨S,Q,rfl,T,_⟩:=nJ Y.1;obtain⟨P,N,rfl,W,_⟩:=nJ ((dM (.mk 11 [t,u]) l).1 Y.2 x V);intro O;exact B (FZ D A T W E H O)
def DJ{l:L Vl}{t u:Ty}{k:Vl}(D:eJ t=true)(A:fY t=false)(I:aJ l (.mk 11 [t,u])=true)(W:xX l=true)(E:bz k t=true)(V:l.length<=24)(C:aB l<=1000000000):af 158 [.sl 7 (aa l),bA k] (.fG [aA (bJ l k:Nat),.bool (dX l k)]):=by
 refine HS l k bn (λx O=>?_) (OE D A E l I W);obtain⟨y,z,rfl,G,_⟩:=nJ ((dM (.mk 11 [t,u]) l).1 I x O);have h1:=cI O;have h2:aE y<=aE (aY y z):=by simp only[aY,aE,aB];omega
 exact EX (aY y z) k y t Z (nK y k t A G E bn)
def HT:bD 62=2:=by decide +kernel
def GU{t u:Ty}(h:bg (.mk 13 [t,u])=true):eJ t=true/\fY t=false:=by
 have h1:=xK h;simp only[DK,aak]at h1;have h2:gS [t,u]=true:=by simpa using h1.1
 exact⟨by simpa[gS]using h2,cN (gH (kH h)).2 (show t∈aK (.mk 13 [t,u])by simp[aK])⟩
def PR(S:bE)(G:Int)(Y:L UInt8)(args:L Nd)(codes:L (L Ty->CR))(types s:L Ty)(r:L Ty×Bool)(hf:br 62 args=some types)(Q:cD s S.st)(hl:s.length<=340)(hg:r.1.all bg=true)(D:gK 62 codes types s=(r,0)):aW G Y 62 args S/\bG S r (aq 62 args S):=by
 obtain⟨a,b,c,d,st,I,g,u,m,B⟩:=S;obtain⟨rfl,rfl⟩:=ct hf cc;have eH:=bq Q;simp only at Q eH;rcases s with _|⟨t1,_|⟨t2,s⟩⟩
 cases D;cases D;obtain⟨v,q0,rfl,hv,oU⟩:=aF Q;obtain⟨w,q,rfl,hw,hq⟩:=aF oU;have f1:=bO hv.1;have A:=bO hw.1;obtain⟨W,E⟩:=t2;simp only[aaa]at eH hl;have N:(if W=13/\cw t1 (aG (.mk W E) 0)=true/\gT (aG (.mk W E) 1)=true then eB (.mk 9 [aG (.mk W E) 1]::s)else aX 5)=(r,0):=D;split at N;rotate_left;cases N;rename_i c1;obtain⟨rfl,c2,_⟩:=c1;obtain⟨t,t',rfl,AY,Jr⟩:=cJ (bl A.1) cc;cases N;have et:t1=t:=(eg _ _).1 c2;subst et;obtain⟨l,rfl,tV,P,RE,H⟩:=qu A.2.1 A.2.2;have ZW:=hw.2;simp only[aE,aU,aM,aab]at ZW;have IU:=GU A.1;have M:=DJ IU.1 IU.2 P RE f1.2.1 tV bn;unfold aW;have e:aq 62 [] ⟨a,b,c,d,v :: .mk 13 0 0 [] l [] []::q,I,g,u,m,B⟩=(if dX l v=true then aQ ⟨a,b,c,d,q,I,g,u,m,B⟩ [bN [lV (di (lV l (bJ l v))) 1]]else aQ ⟨a,b,c,d,q,I,g,u,m,B⟩ [bN []]):=by unfold aq;rw[HT];rfl
 rw[e];have hk:∀(e:Int)(S':bE),b8 137 ⟨a,b,c,d,q,I,g,u,m,B⟩ [.c (aS (.mk 2 G 62 Y [])),.c (.sl 7 (aa [v,.mk 13 0 0 [] l [] []]))] (aA e) S'->b8 109 ⟨a,b,c,d,v :: .mk 13 0 0 [] l [] []::q,I,g,u,m,B⟩ [.c (aS (.mk 2 G 62 Y []))] (aA e) S':=λe S' h =>
  qb _ _ 2 G 62 Y _ [_,_] q _ cc (by rw[HT];rfl) (by show List.length (v::Vl.mk 13 0 0 [] l [] []::q)<=_;simp only[aaa];omega) h
 by_cases h:dX l v=true
 ·rw[if_pos h];have O:∃x,l[bJ l v]?=some x:=by
   unfold dX at h;cases hh:l[bJ l v]? with
   |none=>rw[hh]at h;cases h
   |some x=>exact⟨x,Z⟩
  obtain⟨x,O⟩:=O;have Yt:=aap O;obtain⟨y,z,rfl,hy,Q2⟩:=nJ ((dM _ l).1 P x Yt);rw[h]at M;rw[SS O,show lV (di (aY y z)) 1=z from rfl];have hsn:ey z=true:=by
   have:∀{l:L Vl}{x:Vl},ee l=true->x∈l->ey x=true:=by
    intro l
    induction l with
    |nil=>intro x _ h;simp at h
    |cons y l ih =>
     intro x h O;simp only[ee,aak]at h;rcases List.mem_cons.1 O with rfl|O
     exact h.1;exact ih h.2 O
   have h1:=this H Yt;simp[aY,ey,ee]at h1;exact h1.2
  have I7:=cI Yt;have Ug:aE z<=aE (aY y z):=by simp only[aY,aE,aB];omega
  obtain⟨J,K,V,C,p,U,T⟩:=v;exact⟨hk _ _ (M5 ⟨a,b,c,d,q,I,g,u,m,B⟩ G Y J K V C p U T 13 0 0 [] l [] [] (bJ l (.mk J K V C p U T)) M y y z [] 11 0 0 [] [] O bn cm),bP (S:=⟨a,b,c,d,q,I,g,u,m,B⟩) (dJ (bw hg) (iy ⟨Q2,hsn⟩)) hq⟩
 rw[if_neg h];rw[show dX l v=false by simpa using h]at M;obtain⟨J,K,V,C,p,U,T⟩:=v;exact⟨hk _ _ (M6 ⟨a,b,c,d,q,I,g,u,m,B⟩ G Y J K V C p U T 13 0 0 [] l [] [] _ M cm),bP (S:=⟨a,b,c,d,q,I,g,u,m,B⟩) (dJ (bw hg) mG) hq⟩
def Th{t:Ty}(D:eJ t=true)(A:fY t=false){a b:Vl}(h1:bz a t=true)(h2:bz b t=true)(h:¬de a b<0)(M:de a b≠0):de b a<0:=by obtain⟨g,_⟩:=vX a b b t D A h1 h2 h2;omega
def sn{x y:Vl}{l:L Vl}(h:de (lH x) (lH y)<0)(W:xX (y::l)=true):xX (x::y::l)=true:=by rw[xX];simp;exact⟨h,W⟩
def xL{x y:Vl}{l:L Vl}(W:xX (x::y::l)=true):de (lH x) (lH y)<0/\xX (y::l)=true:=by rw[xX]at W;simpa only[aak,abU]using W
def M7{t u:Ty}(D:eJ t=true)(A:fY t=false){k:Vl}(E:bz k t=true)(y:Vl):∀(l:L Vl),aJ l (.mk 11 [t,u])=true->xX l=true->dX l k=false->xX (l.take (bJ l k)++aY k y::l.drop (bJ l k))=true
 |[],_,_,_=>rfl
 |x::l,hA,hu,hf=>by
  have T:bz x (.mk 11 [t,u])=true/\aJ l (.mk 11 [t,u])=true:=by simpa[aJ]using hA
  obtain⟨P,B,rfl,W,_⟩:=nJ T.1;by_cases Y:de P k<0
  ·have C:bJ (aY P B::l) k=bJ l k+1:=(by simp only[bJ,vW,Y,if_true]);have V:dX l k=false:=(by unfold dX at hf ⊢;simp_all);rw[C];cases l with
   |nil=>exact sn (show de P k<0 from Y) Z
   |cons z r =>
    have S:=M7 D A E y (z::r) T.2 (xL hu).2 V;have U:=(xL hu).1;generalize bJ (z::r) k=i at S;cases i with
    |zero=>exact sn (show de P k<0 from Y) S
    |succ j=>exact sn U S
  have C:bJ (aY P B::l) k=0:=by simp only[bJ,vW,Y,acd]
  rw[C];have M:de P k≠0:=by unfold dX at hf;rw[C]at hf;have Q:decide (de P k=0)=false:=hf;simp_all
  exact sn (show de k P<0 from Th D A W E Y M) hu
def M8{t u:Ty}(D:eJ t=true)(A:fY t=false):∀(l:L Vl)(i:Nat),aJ l (.mk 11 [t,u])=true->xX l=true->xX (l.take i++l.drop (i+1))=true
 |[],i,_,_=>by simp[xX]
 |x::l,0,hA,hu=>by
  cases l with
  |nil=>rfl
  |cons z r=>exact(xL hu).2
 |x::l,i+1,hA,hu=>by
  have Y:bz x (.mk 11 [t,u])=true/\aJ l (.mk 11 [t,u])=true:=by simpa[aJ]using hA
  cases l with
  |nil=>simp[xX]
  |cons z r =>
   have S:=M8 D A (z::r) i Y.2 (xL hu).2;cases i with
   |zero =>
    cases r with
    |nil=>rfl
    |cons w r=>exact sn (M4 D A (z::w::r) x hA hu w c9) S
   |succ j=>exact sn (xL hu).1 S
def OF{t u:Ty}(D:eJ t=true)(A:fY t=false){k:Vl}(E:bz k t=true):∀(l:L Vl),aJ l (.mk 11 [t,u])=true->xX l=true->dX l k=true->bJ (l.take (bJ l k)++l.drop (bJ l k+1)) k=bJ l k/\dX (l.take (bJ l k)++l.drop (bJ l k+1)) k=false
 |[],_,_,hf=>by simp[dX]at hf
 |x::l,hA,hu,hf=>by
  have V:bz x (.mk 11 [t,u])=true/\aJ l (.mk 11 [t,u])=true:=by simpa[aJ]using hA
  obtain⟨P,B,rfl,W,_⟩:=nJ V.1;have Q:xX l=true:=by
   cases l with
   |nil=>rfl
   |cons z r=>exact(xL hu).2
  by_cases T:de P k<0
  ·have C:∀m:L Vl,bJ (aY P B::m) k=bJ m k+1:=λm=>by simp only[bJ,vW,T,if_true]
   have O:∀m:L Vl,dX (aY P B::m) k=dX m k:=λm=>by unfold dX;rw[C];rfl
   rw[O]at hf;have J:=OF D A E l V.2 Q hf;simp_all
  have C:bJ (aY P B::l) k=0:=by simp only[bJ,vW,T,acd]
  unfold dX at hf;rw[C]at hf;have M:de P k=0:=abd hf;have U:P=k:=(vX P k k t D A W E E).zero.1 M;subst U;rw[C];show bJ l P=0/\dX l P=false;cases l with
  |nil=>exact⟨Z,Z⟩
  |cons z r =>
   obtain⟨Y,N,rfl,S,_⟩:=nJ ((dM _ _).1 V.2 z c9);have H:de P Y<0:=(xL hu).1;have g:=vX P Y Y t D A W S S;have K:de Y P>0:=(by have:=g.neg;omega);have h1:bJ (aY Y N::r) P=0:=(by exact if_neg (show ¬de Y P<0 by omega));refine⟨h1,?_⟩;unfold dX;rw[h1];show decide (de Y P=0)=false;exact aan bn
def lX{t:Ty}:∀(a b:L Vl),aJ (a++b) t=(aJ a t&&aJ b t)
 |[],b=>by simp[aJ]
 |x::a,b=>by simp only[abh,aJ,lX a b,adT]
def o9:∀(a b:L Vl),ee (a++b)=(ee a&&ee b)
 |[],b=>by simp[ee]
 |x::a,b=>by simp only[abh,ee,o9 a b,adT]
def lY:∀(a b:L Vl),aB (a++b)=aB a+aB b
 |[],b=>by simp[aB]
 |x::a,b=>by simp only[abh,aB,lY a b];omega
def uZ{t:Ty}{l:L Vl}(h:aJ l t=true)(i:Nat):aJ (l.take i) t=true/\aJ (l.drop i) t=true:=by have e:=lX (t:=t) (l.take i) (l.drop i);rw[abK,h]at e;simpa using e.symm
def Ay{l:L Vl}(h:ee l=true)(i:Nat):ee (l.take i)=true/\ee (l.drop i)=true:=by have e:=o9 (l.take i) (l.drop i);rw[abK,h]at e;simpa using e.symm
def u9(l:L Vl)(i:Nat):aB (l.take i)+aB (l.drop i)=aB l:=by have e:=lY (l.take i) (l.drop i);rw[abK]at e;omega
def zd:bD 63=3:=by decide +kernel
def HU(S:bE)(G:Int)(Q:L UInt8)(args:L Nd)(codes:L (L Ty->CR))(types s:L Ty)(r:L Ty×Bool)(hf:br 63 args=some types)(A:cD s S.st)(hl:s.length<=340)(hg:r.1.all bg=true)(D:gK 63 codes types s=(r,0)):aW G Q 63 args S/\bG S r (aq 63 args S):=by
 obtain⟨a,b,c,d,st,I,g,u,m,B⟩:=S;obtain⟨rfl,rfl⟩:=ct hf cc;have eH:=bq A;simp only at A eH;rcases s with _|⟨t1,_|⟨t2,_|⟨t3,s⟩⟩⟩
 cases D;cases D;cases D;obtain⟨v,q0,rfl,hv,oU⟩:=aF A;obtain⟨w,q1,rfl,hw,RW⟩:=aF oU;obtain⟨z,q,rfl,hz,hq⟩:=aF RW;have f1:=bO hv.1;have f2:=bO hw.1;have f3:=bO hz.1;obtain⟨T2,wO⟩:=t2;obtain⟨T3,Vy⟩:=t3;simp only[aaa]at eH hl;have bQ:(if T2=9/\T3=13/\cw t1 (aG (.mk T3 Vy) 0)=true/\cw (aG (.mk T2 wO) 0) (aG (.mk T3 Vy) 1)=true then eB (.mk T3 Vy::s)else aX 5)=(r,0):=D;split at bQ;rotate_left;cases bQ;rename_i c1;cases bQ;obtain⟨rfl,rfl,c2,c3⟩:=c1;obtain⟨t0,rfl,ok0⟩:=cO (bl f2.1) cc;obtain⟨t,t',rfl,AY,Jr⟩:=cJ (bl f3.1) cc;have et:t1=t:=(eg _ _).1 c2;have et2:t0=t':=(eg _ _).1 c3;subst et et2;obtain⟨l,rfl,tV,W,RE,hls⟩:=qu f3.2.1 f3.2.2;have ZW:=hz.2;simp only[aE,aU,aM,aab]at ZW;have hsv:=hv.2;have O:=GU f3.1;have M:=DJ O.1 O.2 W RE f1.2.1 tV bn;have Vt:=DL l v;have Mg:=u9 l (bJ l v);have Kz:=u9 l (bJ l v+1);have N:=uZ W (bJ l v);have Pz:=uZ W (bJ l v+1);have P:=Ay hls (bJ l v);have XY:=Ay hls (bJ l v+1);have E:∀(e:Int)(S':bE),b8 137 ⟨a,b,c,d,q,I,g,u,m,B⟩ [.c (aS (.mk 2 G 63 Q [])),.c (.sl 7 (aa [v,w,.mk 13 0 0 [] l [] []]))] (aA e) S'->b8 109 ⟨a,b,c,d,v::w :: .mk 13 0 0 [] l [] []::q,I,g,u,m,B⟩ [.c (aS (.mk 2 G 63 Q []))] (aA e) S':=λe S' h =>
  qb _ _ 2 G 63 Q _ [_,_,_] q _ cc (by rw[zd];rfl) (by show List.length (v::w::Vl.mk 13 0 0 [] l [] []::q)<=_;simp only[aaa];omega) h
 unfold aW;rcases yo f2.2.1 f2.2.2 with rfl|⟨y,rfl,hy⟩
 ·have e:aq 63 [] ⟨a,b,c,d,v::bN [] :: .mk 13 0 0 [] l [] []::q,I,g,u,m,B⟩=aQ ⟨a,b,c,d,q,I,g,u,m,B⟩ [.mk 13 0 0 [] (if dX l v=true then l.take (bJ l v)++l.drop (bJ l v+1)else l) [] []]:=by unfold aq;rw[zd];rfl
  rw[e];by_cases h:dX l v=true
  ·rw[if_pos h];have H:=M8 O.1 O.2 l (bJ l v) W RE;rw[h]at M;have hi:bJ l v<l.length:=by
    unfold dX at h;cases hh:l[bJ l v]? with
    |none=>rw[hh]at h;cases h
    |some x=>exact(List.getElem?_eq_some_iff.1 hh).1
   have KA:=zb (l:=l.take (bJ l v)++l.drop (bJ l v+1)) (t:=t1) (u:=t0) Uj (by rw[lX,N.1,Pz.2];rfl) H (by rw[o9,P.1,XY.2];rfl);have Y:aE (.mk 13 0 0 [] (l.take (bJ l v)++l.drop (bJ l v+1)) [] [])<=8589934593:=(by simp only[aE,lY,aU,aM,aab];omega);refine⟨E _ _ ?_,bP (S:=⟨a,b,c,d,q,I,g,u,m,B⟩) (dJ (bw hg) KA) hq⟩;clear E e hv A D Mg Kz N Pz P XY KA H;obtain⟨J,K,V,C,p,U,T⟩:=v;cases l with
   |nil=>simp at hi
   |cons x l=>exact KB ⟨a,b,c,d,q,I,g,u,m,B⟩ G Q J K V C p U T 9 0 0 [] [] [] 13 0 0 [] [] [] x l Se _ (by simpa using hi) M Y cm
  rw[if_neg h];rw[show dX l v=false by simpa using h]at M;refine⟨E _ _ ?_,bP (S:=⟨a,b,c,d,q,I,g,u,m,B⟩) (dJ (bw hg) (zb tV W RE hls)) hq⟩;have Y:aE (.mk 13 0 0 [] l [] [])<=8589934593:=by simp only[aE,aU,aM,aab];omega
  clear E e hv A D Mg Kz N Pz P XY;obtain⟨J,K,V,C,p,U,T⟩:=v;cases l with
  |nil=>exact KC ⟨a,b,c,d,q,I,g,u,m,B⟩ G Q J K V C p U T 9 0 0 [] [] [] 13 0 0 [] [] [] _ M cm
  |cons x l=>exact KD ⟨a,b,c,d,q,I,g,u,m,B⟩ G Q J K V C p U T 9 0 0 [] [] [] 13 0 0 [] [] [] x l Se _ M Y cm
 have e:aq 63 [] ⟨a,b,c,d,v::bN [y] :: .mk 13 0 0 [] l [] []::q,I,g,u,m,B⟩=(if 24<=((if dX l v=true then l.take (bJ l v)++l.drop (bJ l v+1)else l)).length then((13,⟨a,b,c,d,q,I,g,u,m,B⟩):MR)else aQ ⟨a,b,c,d,q,I,g,u,m,B⟩ [.mk 13 0 0 [] (((if dX l v=true then l.take (bJ l v)++l.drop (bJ l v+1)else l)).take (bJ l v)++aY v y::((if dX l v=true then l.take (bJ l v)++l.drop (bJ l v+1)else l)).drop (bJ l v)) [] []]):=by unfold aq;rw[zd];rfl
 have U5:=hw.2;simp only[bN,aE,aB,aU,aM,aab]at U5;have KE:=kj f1.2 hy;by_cases h:dX l v=true
 ·rw[if_pos h]at e;have hi:bJ l v<l.length:=by
   unfold dX at h;cases hh:l[bJ l v]? with
   |none=>rw[hh]at h;cases h
   |some x=>exact(List.getElem?_eq_some_iff.1 hh).1
  have hXl:(l.take (bJ l v)++l.drop (bJ l v+1)).length+1=l.length:=by rw[aao,abm,abp];omega
  have hXa:aJ (l.take (bJ l v)++l.drop (bJ l v+1)) (.mk 11 [t1,t0])=true:=by rw[lX,N.1,Pz.2];rfl
  have hXs:ee (l.take (bJ l v)++l.drop (bJ l v+1))=true:=by rw[o9,P.1,XY.2];rfl
  have hXu:=M8 O.1 O.2 l (bJ l v) W RE;have hsk:=OF O.1 O.2 f1.2.1 l W RE h;have H:=M7 O.1 O.2 f1.2.1 y _ hXa hXu hsk.2;rw[hsk.1]at H;have hXz:aB (l.take (bJ l v)++l.drop (bJ l v+1))<=2000000000:=by rw[lY];omega
  rw[if_neg bn]at e;rw[e];rw[h]at M;generalize hX:l.take (bJ l v)++l.drop (bJ l v+1)=X at *;have c1:=uZ hXa (bJ l v);have c2:=Ay hXs (bJ l v);have c3:=u9 X (bJ l v);have KA:=zb (t:=t1) (u:=t0) Si (show aJ (X.take (bJ l v)++aY v y::X.drop (bJ l v)) _=true by rw[lX,c1.1,aJ,KE.1,c1.2];rfl) H (by rw[o9,c2.1,ee,KE.2,c2.2];rfl);have Y:aE (.mk 13 0 0 [] (X.take (bJ l v)++aY v y::X.drop (bJ l v)) [] [])<=8589934593:=by simp only[aY,aE,lY,aB,aU,aM,aab];omega
  refine⟨E _ _ ?_,bP (S:=⟨a,b,c,d,q,I,g,u,m,B⟩) (dJ (bw hg) KA) hq⟩;subst hX;clear E e hv A D Mg Kz N Pz P XY KA H c1 c2 c3 hXa hXs hXu hsk hXz KE;obtain⟨J,K,V,C,p,U,T⟩:=v;rcases l with _|⟨x,_|⟨x2,l⟩⟩
  simp at hi;have h0:bJ [x] (.mk J K V C p U T)=0:=(by simpa using hi);rw[h0]at M Y ⊢;exact HV ⟨a,b,c,d,q,I,g,u,m,B⟩ G Q J K V C p U T 9 0 0 [] [] [] 13 0 0 [] [] [] x y M Y cm;exact HW ⟨a,b,c,d,q,I,g,u,m,B⟩ G Q J K V C p U T 9 0 0 [] [] [] 13 0 0 [] [] [] x (x2::l) (by simp only[aaa]at tV ⊢;omega) y _ (by simpa using hi) c9 (by simp only[aaa]at tV ⊢;omega) M Y cm
 rw[if_neg h]at e;have h':dX l v=false:=by simpa using h
 rw[h']at M;rw[e];by_cases Wu:24<=l.length
 ·rw[if_pos Wu];refine⟨E _ _ ?_,.inr (.inr Z)⟩;clear E e hv A D Mg Kz N Pz P XY KE;obtain⟨J,K,V,C,p,U,T⟩:=v;cases l with
  |nil=>simp at Wu
  |cons x l=>exact HX ⟨a,b,c,d,q,I,g,u,m,B⟩ G Q J K V C p U T 9 0 0 [] [] [] 13 0 0 [] [] [] x l Se y _ (by simpa using Wu) M cm
 rw[if_neg Wu];have H:=M7 O.1 O.2 f1.2.1 y l W RE h';have KA:=zb (t:=t1) (u:=t0) Si (show aJ (l.take (bJ l v)++aY v y::l.drop (bJ l v)) _=true by rw[lX,N.1,aJ,KE.1,N.2];rfl) H (by rw[o9,P.1,ee,KE.2,P.2];rfl);have Y:aE (.mk 13 0 0 [] (l.take (bJ l v)++aY v y::l.drop (bJ l v)) [] [])<=8589934593:=by simp only[aY,aE,lY,aB,aU,aM,aab];omega
 refine⟨E _ _ ?_,bP (S:=⟨a,b,c,d,q,I,g,u,m,B⟩) (dJ (bw hg) KA) hq⟩;clear E e hv A D Mg Kz N Pz P XY KA H KE;obtain⟨J,K,V,C,p,U,T⟩:=v;cases l with
 |nil=>exact KF ⟨a,b,c,d,q,I,g,u,m,B⟩ G Q J K V C p U T 9 0 0 [] [] [] 13 0 0 [] [] [] y M Y cm
 |cons x l=>exact KG ⟨a,b,c,d,q,I,g,u,m,B⟩ G Q J K V C p U T 9 0 0 [] [] [] 13 0 0 [] [] [] x l Se y _ (by simpa using Vt) (by simpa using Wu) M Y cm
def EY(P:Int)(T:P=69\/P=70\/P=71\/P=72\/P=93\/P=94\/P=95)(S:bE)(G:Int)(Y:L UInt8)(args:L Nd)(B:aM args<=8589934593)(codes:L (L Ty->CR))(types s:L Ty)(r:L Ty×Bool)(hf:br P args=some types)(C:cD s S.st)(V:s.length<=340)(Q:r.1.all bg=true)(D:dV P s=(r,0)):aW G Y P args S/\bG S r (aq P args S):=by
 rcases T with rfl|rfl|rfl|rfl|rfl|rfl|rfl
 exact PS S G Y args types s r hf C V Q D;exact PT S G Y args types s r hf C V Q D;exact PU S G Y args types s r hf C V Q D;exact PV S G Y args types s r hf C V Q D;exact PW S G Y args types s r hf C V Q D;exact PX S G Y args types s r hf C V Q D;exact PY S G Y args types s r hf C V Q D
def M9(P:Int)(T:P=73\/P=74\/P=75\/P=76\/P=77\/P=78\/P=79\/P=80\/P=81\/P=82)(S:bE)(G:Int)(Y:L UInt8)(args:L Nd)(B:aM args<=8589934593)(codes:L (L Ty->CR))(types s:L Ty)(r:L Ty×Bool)(hf:br P args=some types)(C:cD s S.st)(V:s.length<=340)(Q:r.1.all bg=true)(D:iJ P types s=(r,0)):aW G Y P args S/\bG S r (aq P args S):=by
 rcases T with rfl|rfl|rfl|rfl|rfl|rfl|rfl|rfl|rfl|rfl
 exact PZ S G Y args types s r hf C V Q D;exact KH S G Y args types s r hf C V Q D;exact KI S G Y args types s r hf C V Q D;exact KJ S G Y args types s r hf C V Q D;exact P0 S G Y args types s r hf C V Q D;exact P1 S G Y args types s r hf C V Q D;exact Ti S G Y args types s r hf C V Q D;exact HY S G Y args types s r hf C V Q D;exact Na S G Y args types s r hf C V Q D;exact HZ S G Y args B types s r hf C V Q D
def KK(P:Int)(K:P=84\/P=85\/P=86\/P=87\/P=88\/P=89\/P=90\/P=91\/P=92)(S:bE)(W:mR S.self S.gC S.gD S.balance=true)(T:0<=S.aZ/\S.aZ<=bF)(G:Int)(Y:L UInt8)(args:L Nd)(B:aM args<=8589934593)(codes:L (L Ty->CR))(types s:L Ty)(r:L Ty×Bool)(hf:br P args=some types)(C:cD s S.st)(V:s.length<=340)(Q:r.1.all bg=true)(D:gd P types s=(r,0)):aW G Y P args S/\bG S r (aq P args S):=by
 rcases K with rfl|rfl|rfl|rfl|rfl|rfl|rfl|rfl|rfl
 exact HL S W T G Y args B types s r hf C V Q D;exact MV S W T G Y args B types s r hf C V Q D;exact Kq S W T G Y args B types s r hf C V Q D;exact MZ S W T G Y args B types s r hf C V Q D;exact DH S W T G Y args B types s r hf C V Q D;exact MS S W T G Y args B types s r hf C V Q D;exact HH S W T G Y args B types s r hf C V Q D;exact HJ S W T G Y args B types s r hf C V Q D;exact ES S W T G Y args B types s r hf C V Q D
def KL(P:Int)(T:P=59\/P=61\/P=62\/P=63)(S:bE)(G:Int)(Y:L UInt8)(args:L Nd)(B:aM args<=8589934593)(codes:L (L Ty->CR))(types s:L Ty)(r:L Ty×Bool)(hf:br P args=some types)(C:cD s S.st)(V:s.length<=340)(Q:r.1.all bg=true)(D:gK P codes types s=(r,0)):aW G Y P args S/\bG S r (aq P args S):=by
 rcases T with rfl|rfl|rfl|rfl
 exact M1 S G Y args codes types s r hf C V Q D;exact Kx S G Y args codes types s r hf C V Q D;exact PR S G Y args codes types s r hf C V Q D;exact HU S G Y args codes types s r hf C V Q D
def EZ(P:Int)(T:P=46\/P=47\/P=48\/P=49\/P=50\/P=51\/P=53\/P=54\/P=56\/P=57)(S:bE)(G:Int)(Y:L UInt8)(args:L Nd)(B:aM args<=8589934593)(codes:L (L Ty->CR))(types s:L Ty)(r:L Ty×Bool)(hf:br P args=some types)(C:cD s S.st)(V:s.length<=340)(Q:r.1.all bg=true)(D:cF P codes types s=(r,0)):aW G Y P args S/\bG S r (aq P args S):=by
 rcases T with rfl|rfl|rfl|rfl|rfl|rfl|rfl|rfl|rfl|rfl
 exact Nb S G Y args codes types s r hf C V Q D;exact H6 S G Y args codes types s r hf C V Q D;exact P2 S G Y args codes types s r hf C V Q D;exact P3 S G Y args codes types s r hf C V Q D;exact Nc S G Y args codes types s r hf C V Q D;exact KN S G Y args codes types s r hf C V Q D;exact Nf S G Y args codes types s r hf C V Q D;exact Ng S G Y args codes types s r hf C V Q D;exact P4 S G Y args codes types s r hf C V Q D;exact M0 S G Y args codes types s r hf C V Q D
mutual
def DM:∀(t:Ty)(d n W K m:Int),W<=d->K<=n->eP t d n=(true,m)->eP t W K=(true,m-n+K)
 |.mk T args,d,n,W,K,m,J,O,h=>by
  simp only[eP]at h ⊢;by_cases c:d>24\/n+1>300\/arity T≠args.length;simp_all;rw[if_neg c]at h;have M:¬(W>24\/K+1>300\/arity T≠args.length):=by omega
  rw[if_neg M];cases e:dW args (d+1) (n+1)with
  |mk b U =>
   rw[e]at h;cases b with
   |false=>cases h
   |true =>
    have h2:=Bm args (d+1) (n+1) (W+1) (K+1) U bn bn e;grind
def Bm:∀(l:L Ty)(d n W K m:Int),W<=d->K<=n->dW l d n=(true,m)->dW l W K=(true,m-n+K)
 |[],d,n,W,K,m,J,O,h=>by simp only[dW]at h ⊢;simp_all
 |t::l,d,n,W,K,m,J,O,h=>by
  simp only[dW]at h ⊢;cases e:eP t d n with
  |mk b U =>
   rw[e]at h;cases b with
   |false=>cases h
   |true =>
    have h2:=DM t d n W K U J O e;rw[h2];have S:=Bm l d U W (U-n+K) m J bn h;grind
end
def KO{t:Ty}{d n m:Int}(h:eP t d n=(true,m)):n<=299/\n<m:=by
 have h1:n<=299:=by obtain⟨T,args⟩:=t;simp only[eP]at h;grind
 have h2:=(rD t d n bn).1;simp_all
def DN:∀{l:L Ty}{d n m:Int}{x:Ty},dW l d n=(true,m)->0<=n->x∈l->∃K U,0<=K/\eP x d K=(true,U)
 |t::l,d,n,m,x,h,hn,O=>by
  simp only[dW]at h;cases e:eP t d n with
  |mk b U =>
   rw[e]at h;cases b with
   |false=>cases h
   |true =>
    rcases List.mem_cons.1 O with rfl|O
    grind;have:=(KO e).2;exact DN (l:=l) h bn O
def er{T:Int}{args:L Ty}(h:bg (.mk T args)=true):∀x∈args,bg x=true:=by
 intro x O;unfold bg at h;simp only[eP]at h;split at h;cases h;cases e:dW args (1+1) (0+1)with
 |mk b Y =>
  rw[e]at h;cases b with
  |false=>cases h
  |true =>
   obtain⟨K,P,h1,h2⟩:=DN e bn O;have U:=DM x _ K 1 0 P bn bn h2;unfold bg;rw[U]
def w9{args:L Ty}(h:bg (.mk 13 args)=true):bg (.mk 11 args)=true:=by
 unfold bg at h ⊢;simp only[eP]at h ⊢;split at h;cases h;rename_i c;have Y:arity 13=2:=rfl;have W:arity 11=2:=rfl;rw[Y]at c;rw[W,if_neg c];cases e:dW args (1+1) (0+1)with
 |mk b U =>
  rw[e]at h;cases b with
  |false=>cases h
  |true=>rfl
def KP{u n p:Int}{s:L UInt8}{k:Nat}{d W:Int}(J:W<=d)(h:gr u n p s k d=0):gr u n p s k W=0:=by unfold gr at h ⊢;omega
mutual
def Nh:∀(n:Nd)(d W:Int),W<=d->eC n d=0->eC n W=0
 |.mk u n p s args,d,W,J,h=>by obtain⟨h1,h2⟩:=jr h;simp only[eC];rw[if_pos (KP J h1)];exact va args _ _ bn h2
def va:∀(l:L Nd)(d W:Int),W<=d->cS l d=0->cS l W=0
 |[],_,_,_,_=>rfl
 |x::l,d,W,J,h=>by simp only[cS]at h ⊢;by_cases c:eC x d=0;rw[if_pos c]at h;rw[if_pos (Nh x d W J c)];exact va l d W J h;omega
end
def DO:∀{l:L Nd}{x:Nd}{d:Int},cS l d=0->x∈l->eC x d=0
 |y::l,x,d,h,O=>by
  simp only[cS]at h;by_cases c:eC y d=0
  ·rw[if_pos c]at h;rcases List.mem_cons.1 O with rfl|O
   exact c;exact DO h O
  omega
def F0:∀{l:L Nd}{x:Nd},x∈l->many x<=cz l
 |y::l,x,O=>by
  simp only[cz];rcases List.mem_cons.1 O with rfl|O
  omega;have:=F0 O;omega
def iV(H:L Nd):Prop:=dD (.mk 3 0 0 [] H)=0
def vY{H:L Nd}:iV H↔cS H 2=0/\cz H<=299:=by unfold iV;rw[jV];simp only[many];constructor;rintro⟨h1,h2⟩;exact⟨(jr h1).2,bn⟩;rintro⟨h1,h2⟩;refine⟨?_,bn⟩;simp only[eC];exact h1
def lK{H:L Nd}(h:iV H):cz H<=299:=(vY.1 h).2
def xM{H:L Nd}(h:iV H):aM H<=60300:=by have:=xG h;simp only[bR]at this;omega
def nh{H:L Nd}{k N P:Int}{S:L UInt8}{args:L Nd}(h:iV H)(T:Nd.mk k N P S args∈H):iV args/\cz args+1<=cz H:=by obtain⟨h1,h2⟩:=vY.1 h;have U:=(jr (DO h1 T)).2;have Y:=F0 T;simp only[many]at Y;exact⟨vY.2 ⟨va _ _ _ bn U,bn⟩,Y⟩
def KQ{n:Nd}(h:dD n=0):iV (cy n):=by obtain⟨k,N,P,S,args⟩:=n;obtain⟨h1,h2⟩:=jV.1 h;simp only[many]at h2;exact vY.2 ⟨(jr h1).2,by simp only[cy];omega⟩
def um(H:L Nd)(s Y:L Ty)(N:Bool):Prop:=bH H (s,false)=((Y,N),0)
def FT(pr:L Ty×Bool):List gB->L Ty->Prop
 |[],s=>pr=(s,false)
 |F::t,s=>s.length+cz F.code<=340/\iV F.code/\F.pos<=F.code.length/\∃Y N,um (F.code.drop F.pos) s Y N/\(N=false ->
   (F.fin=0/\FT pr t Y) \/
   (F.fin=1/\F.aside.length<=1/\∃u,cD u F.aside.reverse/\FT pr t (u++Y)) \/
   (F.fin=2/\F.aside.length<=340/\∃q u,Y=[q]/\cD u F.aside.reverse/\FT pr t (q::u)) \/
   (F.fin=3/\∃e,(∀x∈F.aside,Fit e x)/\Y.length+1+cz F.code<=340/\(∃T A,um F.code (e::Y) T A/\(A=false->T=Y))/\FT pr t Y) \/
   (F.fin=4/\∃a p,Y=a::p/\cq a=2/\p.length+cz F.code<=340/\(∃T A,um F.code p T A/\(A=false->T=a::p))/\FT pr t p))
def VA(F:gB):Nat:=1+2*cz (F.code.drop F.pos)
def wz:List gB->Nat
 |[]=>0
 |F::t=>VA F+wz t
def yx:∀t:List gB,t.length<=wz t
 |[]=>aal _
 |F::t=>by have:=yx t;simp only[aaa,wz,VA];omega
def kI{a b:CR}{r:L Ty×Bool}(h:cn a b=(r,0)):a.2=0/\(a.1.2=false->r=a.1):=by unfold cn at h;split at h;rename_i c;exact absurd (aaZ Prod.snd h) c;rename_i p;simp at p;refine⟨p,λhf=>?_⟩;split at h;rename_i c;exact absurd (aaZ Prod.snd h) c;rw[if_neg (by rw[hf];decide)]at h;split at h;simp_all;cases h
def kJ{a b:CR}{r:L Ty×Bool}(h:cn a b=(r,0)):b.2=0/\(b.1.2=false->r=b.1):=by unfold cn at h;split at h;rename_i c;exact absurd (aaZ Prod.snd h) c;split at h;rename_i c;exact absurd (aaZ Prod.snd h) c;rename_i p M;simp at M;refine⟨M,λhf=>?_⟩;by_cases Y:a.1.2=true;grind;rw[if_neg Y]at h;split at h;rename_i c4;cases h;have e:=(om _ _).1 (c4.resolve_left (by rw[hf];decide));grind;cases h
def oA{H:L Nd}{s:L Ty}(h:(bH H (s,false)).2=0):um H s (bH H (s,false)).1.1 (bH H (s,false)).1.2:=by unfold um;rw[<- h]
def H7{pr:L Ty×Bool}{I:List gB}{c:L Nd}{H:L Ty}{r:L Ty×Bool}(A:(bH c (H,false)).2=0)(p:(bH c (H,false)).1.2=false->r=(bH c (H,false)).1)(V:H.length+cz c<=340)(T:iV c)
  (h:r.2=false->FT pr I r.1):FT pr (⟨c,0,0,[]⟩::I) H:=by
 refine⟨V,T,abG _,(bH c (H,false)).1.1,(bH c (H,false)).1.2,oA A,λhf => .inl ⟨Z,?_⟩⟩;simp_all
def XZ(pr:L Ty×Bool)(S:bE)(r:L Ty×Bool)(o:MR):Prop :=
 o.1=0/\∃F H,o.2.fr=F::S.fr/\iV F.code/\cD H o.2.st/\((r.2=false->FT pr S.fr r.1)->FT pr (F::S.fr) H)
def Comes(pr:L Ty×Bool)(S:bE)(r:L Ty×Bool)(o:MR):Prop:=bG S r o\/XZ pr S r o\/Wv o
def zR{P:Int}{args:L Nd}{types:L Ty}(h:br P args=some types)(C:fF P=[99]):∃p q r c,args=[.mk 3 p q r c]/\types=[]:=by
 obtain⟨h1,h2⟩:=jx h;rw[C]at h1 h2;rcases args with _|⟨x,_|⟨y,l⟩⟩
 grind;obtain⟨u,N,p,q,xs⟩:=x;have U:(if u=3 then some []else none)=some types:=h2;simp_all;grind
def qt{P:Int}{args:L Nd}{types:L Ty}(h:br P args=some types)(C:fF P=[99,99]):∃p q r c W V U T,args=[.mk 3 p q r c,.mk 3 W V U T]/\types=[]:=by
 obtain⟨h1,h2⟩:=jx h;rw[C]at h1 h2;rcases args with _|⟨x,_|⟨y,_|⟨z,l⟩⟩⟩
 grind;grind;obtain⟨u,N,p,q,xs⟩:=x;obtain⟨Y,Q,W,V,S⟩:=y;have O:(if u=3 then(if Y=3 then some []else none)else none)=some types:=h2;simp_all;grind
def Tj{P:Int}{args:L Nd}{types:L Ty}(h:br P args=some types)(C:fF P=[116,116,99]):∃x y p q r c,args=[x,y,.mk 3 p q r c]/\(aO x).2=0/\(aO y).2=0/\types=[(aO x).1,(aO y).1]:=by
 obtain⟨h1,h2⟩:=jx h;rw[C]at h1 h2;rcases args with _|⟨x,_|⟨y,_|⟨z,_|⟨O,l⟩⟩⟩⟩
 grind;grind;grind;obtain⟨u,N,p,q,xs⟩:=x;obtain⟨Y,V,U,T,W⟩:=y;obtain⟨S,M,J,K,Q⟩:=z;have I:(if(aO (.mk u N p q xs)).2=0 then(if(aO (.mk Y V U T W)).2=0 then(if S=3 then some ([]++[(aO (.mk u N p q xs)).1]++[(aO (.mk Y V U T W)).1])else none)else none)else none)=some types:=h2;grind;grind
def ym:bD 52=1:=by decide +kernel
def BR:bD 55=1:=by decide +kernel
def yp:bD 58=1:=by decide +kernel
def Oc:bD 60=1:=by decide +kernel
def BS:bD 64=1:=by decide +kernel
def Od:bD 65=1:=by decide +kernel
def Oh:bD 66=0:=by decide +kernel
def Og:bD 67=2:=by decide +kernel
def Oe:bD 68=1:=by decide +kernel
def pI:∀{l:L Vl}{x:Vl},ee l=true->x∈l->ey x=true
 |y::l,x,h,O=>by
  simp only[ee,aak]at h;rcases List.mem_cons.1 O with rfl|O
  grind;exact pI h.2 O
def Of{v:Vl}{t u:Ty}(h:bz v (.mk 14 [t,u])=true)(C:ey v=true):∃H,v = .mk 14 0 0 [] [] [t,u] H/\iV H/\(bH H ([t],false)).2=0/\((bH H ([t],false)).1.2=false->(bH H ([t],false)).1.1=[u])/\iB H=false:=by
 obtain⟨k,n,a,s,args,types,H⟩:=v;obtain⟨E,D,Y⟩:=jt h;simp only[cq]at E;subst E;have W:types.length=2/\a=0/\n=0/\s=[]/\args.length=0:=by simpa[bX]using D
 obtain⟨V,rfl,rfl,rfl,T⟩:=W;obtain rfl:=List.length_eq_zero_iff.1 T;rcases types with _|⟨S,_|⟨I,_|⟨O,q⟩⟩⟩
 omega;simp_all
 ·have h2:(cw t S&&cw u I)=true:=by have U:=h;unfold bz at U;simp only[bX,cq,aG,aK]at U;simpa using U
  rw[aak]at h2;obtain rfl:=(eg _ _).1 h2.1;obtain rfl:=(eg _ _).1 h2.2;rw[Cy 14 0 0 [] [] t u H rfl]at C;simp at C;obtain⟨⟨p,M⟩,Q⟩:=C;obtain⟨g1,_,_,_,P⟩:=vz p;rw[P]at p M;simp only[cy]at p M;refine⟨H,Z,g1,p,λhf=>?_,Q⟩;rcases M with M|M
  grind;exact(om _ _).1 M
 simp_all
end Go.Proofs
