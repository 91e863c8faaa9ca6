/- A part of the proof. -/
import Derived.Test.YtpnpbmbdkinajaaGreatDoorRunFG
import Derived.Test.YtpnpbmbdkinajaaGreatDoorRunVG
set_option linter.all false
set_option maxHeartbeats 0
set_option maxRecDepth 100000
namespace Go.Proofs
open Go.cE
def wS{Q}{S:bM}{c}{l:Ξ}{p}{r:Γ×Bool}(U:(bU c (p,false)).2=0)(V:(bU c (p,false)).1.2=false->r=(bU c (p,false)).1)(E:p.length+cV c<=340)(Y:lg c)
  (M:dj p (l.reverse++S.st)):Comes Q S r (bg (dZ S c 0 []) l):=by
 rcases sF l S.st with T|⟨T,P,B⟩
 exact .inl (.inr (.inr T));refine .inr (.inl ⟨T,⟨c,0,0,[]⟩,p,Z,Y,?_,λh=>N3 U V E Y h⟩);show dj _ (nQ l S.st).2;grind
def Ce{T S c p}{r:Γ×Bool}(U:(bU c (p,false)).2=0)(V:(bU c (p,false)).1.2=false->r=(bU c (p,false)).1)(E:p.length+cV c<=340)(Y:lg c)
  (M:dj p S.st):Comes T S r (0,dZ S c 0 []) :=
 .inr (.inl ⟨Z,⟨c,0,0,[]⟩,p,Z,Y,M,λh=>N3 U V E Y h⟩)
def VX{Y q1}{W:Δ}{G:Θ}{V Q}{P:Δ}{u:Θ}(h:lg [.mk 3 Y q1 W G,.mk 3 V Q P u]):lg G/\lg u/\cV [.mk 3 Y q1 W G,.mk 3 V Q P u]=cV G+cV u+2 :=
 ⟨(qk h (ajW ..)).1,(qk h (aix _ (ajW ..))).1,by simp only[cV,many];try omega⟩
def aaB{Y q1}{W:Δ}{G:Θ}(h:lg [.mk 3 Y q1 W G]):lg G/\cV [.mk 3 Y q1 W G]=cV G+1 :=
 ⟨(qk h (ajW ..)).1,by simp only[cV,many];try omega⟩
def N6(o S A p F)(j:lg F)(z s)(r:Γ×Bool)(hf:bB 52 F=some z)(D:dj s S.st)(i:s.length+cV F<=339)(J:S.fr.length<=1099511627776)(B:dh 52 (b8 F) z s=(r,0)):bt A p 52 F S/\Comes o S r (aA 52 F S):=by
 obtain⟨a,b,c,d,st,C,g,u,m,K⟩:=S;obtain⟨I,q1,E,G,U,Q,P,Y,rfl,rfl⟩:=ve hf bn;obtain⟨f,g2,gz⟩:=VX j;have fY:=bH D;cases s with
 |nil=>cases B
 |cons t s =>
 obtain⟨v,q,rfl,M,y⟩:=aK D;have V:=bW M.1;simp at fY i;have N:(if cL t=12 then cJ (bU G (aL t 0::s,false)) (bU Y (aL t 1::s,false))else br 5)=(r,0):=B;split at N;rotate_left;cases N;rename_i EW;obtain⟨T,ts⟩:=t;subst EW;obtain⟨t1,t2,rfl,FW,Q6⟩:=dr (bw V.1) bn;obtain⟨x,O,W⟩:=N7 V.2.1 V.2.2;obtain⟨m1,m2⟩:=nD N;obtain⟨m3,m4⟩:=nE N;rcases O with ⟨rfl,O⟩|⟨rfl,O⟩
 ·have H:=M.2;simp only[aG,aH]at H;have e:aA 52 [.mk 3 I q1 E G,.mk 3 U Q P Y] ⟨a,b,c,d,.mk 12 0 0 [] [x] [] []::q,C,g,u,m,K⟩=bg (dZ ⟨a,b,c,d,q,C,g,u,m,K⟩ G 0 []) [x]:=by unfold aA;rfl
  rw[e]
  exact⟨gO _ _ 2 A 52 p _ [_] q _ bn (by rw[Du];rfl) (by show List.length (Vl.mk 12 0 0 [] [x] [] []::q)<=_;simp only[aat];omega) (Kr ⟨a,b,c,d,q,C,g,u,m,K⟩ A p I q1 E G U Q P Y 12 0 [] [] [] x ai bT J),
   wS (S:=⟨a,b,c,d,q,C,g,u,m,K⟩) m1 m2 ek f ⟨⟨eX (fQ V.1 _ adq) ⟨O,W⟩,ai⟩,y⟩⟩
 have H:=M.2;simp only[aG,aH,bf,aP,aav]at H;have e:aA 52 [.mk 3 I q1 E G,.mk 3 U Q P Y] ⟨a,b,c,d,.mk 12 1 0 [] [x] [] []::q,C,g,u,m,K⟩=bg (dZ ⟨a,b,c,d,q,C,g,u,m,K⟩ Y 0 []) [x]:=by unfold aA;rw[Du];rfl
 rw[e]
 exact⟨gO _ _ 2 A 52 p _ [_] q _ bn (by rw[Du];rfl) (by show List.length (Vl.mk 12 1 0 [] [x] [] []::q)<=_;simp only[aat];omega) (Ks ⟨a,b,c,d,q,C,g,u,m,K⟩ A p I q1 E G U Q P Y 12 0 [] [] [] x ai bT J),
  wS (S:=⟨a,b,c,d,q,C,g,u,m,K⟩) m3 m4 ek g2 ⟨⟨eX (fQ V.1 _ adq) ⟨O,W⟩,ai⟩,y⟩⟩
def N8(o S A p F)(B:lg F)(z s)(r:Γ×Bool)(hf:bB 55 F=some z)(M:dj s S.st)(E:s.length+cV F<=339)(J:S.fr.length<=1099511627776)(D:dh 55 (b8 F) z s=(r,0)):bt A p 55 F S/\Comes o S r (aA 55 F S):=by
 obtain⟨a,b,c,d,st,C,g,u,m,K⟩:=S;obtain⟨I,q1,W,G,V,Q,P,Y,rfl,rfl⟩:=ve hf bn;obtain⟨j,i,gz⟩:=VX B;have f:=bH M;cases s with
 |nil=>cases D
 |cons t s =>
 obtain⟨v,q,rfl,H,y⟩:=aK M;have U:=bW H.1;simp at f E;have O:(if cL t=9 then cJ (bU G (s,false)) (bU Y (aL t 0::s,false))else br 5)=(r,0):=D;split at O;rotate_left;cases O;rename_i EW;obtain⟨T,ts⟩:=t;subst EW;obtain⟨t1,rfl,FW⟩:=dD (bw U.1) bn;obtain⟨m1,m2⟩:=nD O;obtain⟨m3,m4⟩:=nE O;rcases Ds U.2.1 U.2.2 with rfl|⟨x,rfl,hx,N⟩
 ·have e:aA 55 [.mk 3 I q1 W G,.mk 3 V Q P Y] ⟨a,b,c,d,cr []::q,C,g,u,m,K⟩=bg (dZ ⟨a,b,c,d,q,C,g,u,m,K⟩ G 0 []) []:=by unfold aA;rfl
  rw[e]
  exact⟨gO _ _ 2 A 55 p _ [_] q _ bn (by rw[GW];rfl) (by show List.length (cr []::q)<=_;simp;omega) (Kt ⟨a,b,c,d,q,C,g,u,m,K⟩ A p I q1 W G V Q P Y 9 0 [] [] [] 0 bT J),
   wS (S:=⟨a,b,c,d,q,C,g,u,m,K⟩) m1 m2 ai j y⟩
 have hz:=H.2;simp only[cr,aG,aH]at hz;have e:aA 55 [.mk 3 I q1 W G,.mk 3 V Q P Y] ⟨a,b,c,d,cr [x]::q,C,g,u,m,K⟩=bg (dZ ⟨a,b,c,d,q,C,g,u,m,K⟩ Y 0 []) [x]:=by unfold aA;rfl
 rw[e]
 exact⟨gO _ _ 2 A 55 p _ [_] q _ bn (by rw[GW];rfl) (by show List.length (cr [x]::q)<=_;simp;omega) (Ku ⟨a,b,c,d,q,C,g,u,m,K⟩ A p I q1 W G V Q P Y 9 0 [] [] [] 0 x ai bT J),
  wS (S:=⟨a,b,c,d,q,C,g,u,m,K⟩) m3 m4 oe i ⟨⟨eX (fQ U.1 _ adq) ⟨hx,N⟩,ai⟩,y⟩⟩
def N9(j S A p F)(B:lg F)(z s)(r:Γ×Bool)(hf:bB 58 F=some z)(N:dj s S.st)(i:s.length+cV F<=339)(J:S.fr.length<=1099511627776)(D:dh 58 (b8 F) z s=(r,0)):bt A p 58 F S/\Comes j S r (aA 58 F S):=by
 obtain⟨a,b,c,d,st,C,g,u,m,K⟩:=S;obtain⟨I,q1,E,G,Q,P,H,V,rfl,rfl⟩:=ve hf bn;obtain⟨f,g2,gz⟩:=VX B;have fY:=bH N;cases s with
 |nil=>cases D
 |cons t s =>
 obtain⟨v,q,rfl,M,o⟩:=aK N;have U:=bW M.1;simp at fY i;have O:(if cL t=10 then cJ (bU G (aL t 0::t::s,false)) (bU V (s,false))else br 5)=(r,0):=D;split at O;rotate_left;cases O;rename_i EW;obtain⟨T,ts⟩:=t;subst EW;obtain⟨t1,rfl,FW⟩:=dD (bw U.1) bn;obtain⟨m1,m2⟩:=nD O;obtain⟨m3,m4⟩:=nE O;obtain⟨l,rfl,yF,Y,W⟩:=oT U.2.1 U.2.2;cases l with
 |nil =>
  have e:aA 58 [.mk 3 I q1 E G,.mk 3 Q P H V] ⟨a,b,c,d,.mk 10 0 0 [] [] [] []::q,C,g,u,m,K⟩=(0,dZ ⟨a,b,c,d,q,C,g,u,m,K⟩ V 0 []):=by unfold aA;rfl
  rw[e]
  exact⟨gO _ _ 2 A 58 p _ [_] q _ bn (by rw[Dv];rfl) (by show List.length (Vl.mk 10 0 0 [] [] [] []::q)<=_;simp;omega) (Kv ⟨a,b,c,d,q,C,g,u,m,K⟩ A p I q1 E G Q P H V 10 0 [] [] [] 0 bT J),
   Ce (S:=⟨a,b,c,d,q,C,g,u,m,K⟩) m3 m4 ai g2 o⟩
 |cons x y =>
  have hz:=M.2;simp only[aG,aH]at hz;have e:aA 58 [.mk 3 I q1 E G,.mk 3 Q P H V] ⟨a,b,c,d,.mk 10 0 0 [] (x::y) [] []::q,C,g,u,m,K⟩=bg (dZ ⟨a,b,c,d,q,C,g,u,m,K⟩ G 0 []) [.mk 10 0 0 [] y [] [],x]:=by unfold aA;rw[Dv];rfl
  rw[e];simp only[aS,aaI]at Y;simp only[eo,aaI]at W;simp only[aat]at yF
  exact⟨gO _ _ 2 A 58 p _ [_] q _ bn (by rw[Dv];rfl) (by show List.length (Vl.mk 10 0 0 [] (x::y) [] []::q)<=_;simp only[aat];omega) (Kw ⟨a,b,c,d,q,C,g,u,m,K⟩ A p I q1 E G Q P H V 10 0 [] [] [] 0 x y ai aet bT J),
   wS (S:=⟨a,b,c,d,q,C,g,u,m,K⟩) m1 m2 ek f ⟨⟨eX (fQ U.1 _ adq) ⟨Y.1,W.1⟩,ai⟩,⟨eX U.1 (Dq ai Y.2 W.2),aet⟩,o⟩⟩
def aaC(x S A p F)(B:lg F)(z s)(r:Γ×Bool)(hf:bB 64 F=some z)(U:dj s S.st)(E:s.length+cV F<=339)(J:S.fr.length<=1099511627776)(D:dY 64 F (b8 F) z s=(r,0)):bt A p 64 F S/\Comes x S r (aA 64 F S):=by
 obtain⟨a,b,c,d,st,C,g,u,m,K⟩:=S;obtain⟨I,q1,W,G,V,Q,P,Y,rfl,rfl⟩:=ve hf bn;obtain⟨o,M,gz⟩:=VX B;have N:=bH U;cases s with
 |nil=>cases D
 |cons t s =>
 obtain⟨v,q,rfl,H,y⟩:=aK U;have f1:=bW H.1;simp at N E;have O:(if cL t=2 then cJ (bU G (s,false)) (bU Y (s,false))else br 5)=(r,0):=D;split at O;rotate_left;cases O;rename_i j;obtain⟨T,ts⟩:=t;subst j;obtain⟨i,f⟩:=nD O;obtain⟨m3,m4⟩:=nE O;rcases Rw f1.2.1 with rfl|rfl
 ·have e:aA 64 [.mk 3 I q1 W G,.mk 3 V Q P Y] ⟨a,b,c,d,aO 2 0::q,C,g,u,m,K⟩=(0,dZ ⟨a,b,c,d,q,C,g,u,m,K⟩ Y 0 []):=by unfold aA;rfl
  rw[e]
  exact⟨gO _ _ 2 A 64 p _ [_] q _ bn (by rw[GX];rfl) (by show List.length (aO 2 0::q)<=_;simp;omega) (QW ⟨a,b,c,d,q,C,g,u,m,K⟩ A p I q1 W G V Q P Y 2 0 [] [] [] [] bT J),
   Ce (S:=⟨a,b,c,d,q,C,g,u,m,K⟩) m3 m4 ai M y⟩
 have e:aA 64 [.mk 3 I q1 W G,.mk 3 V Q P Y] ⟨a,b,c,d,aO 2 1::q,C,g,u,m,K⟩=(0,dZ ⟨a,b,c,d,q,C,g,u,m,K⟩ G 0 []):=by unfold aA;rfl
 rw[e]
 exact⟨gO _ _ 2 A 64 p _ [_] q _ bn (by rw[GX];rfl) (by show List.length (aO 2 1::q)<=_;simp;omega) (QX ⟨a,b,c,d,q,C,g,u,m,K⟩ A p I q1 W G V Q P Y 2 0 [] [] [] [] bT J),
  Ce (S:=⟨a,b,c,d,q,C,g,u,m,K⟩) i f ai o y⟩
def ua{Y:Type}(l:List Y):l.drop l.length=[]:=aho
def Us(i S A p F)(f:lg F)(z s)(r:Γ×Bool)(hf:bB 60 F=some z)(I:dj s S.st)(hl:s.length+cV F<=339)(J:S.fr.length<=1099511627776)(D:jc 60 (b8 F) z s=(r,0)):bt A p 60 F S/\Comes i S r (aA 60 F S):=by
 obtain⟨a,b,c,d,st,C,g,u,m,K⟩:=S;obtain⟨P,q1,E,G,rfl,rfl⟩:=Cd hf bn;obtain⟨o,gz⟩:=aaB f;have fY:=bH I;cases s with
 |nil=>cases D
 |cons t s =>
 obtain⟨v,q,rfl,M,hq⟩:=aK I;have V:=bW M.1;simp at fY hl;have N:(if cL t=10\/cL t=13 then cJ (bU G ((if cL t=13 then .mk 11 (aQ t)else aL t 0)::s,false)) (fO s)else br 5)=(r,0):=D;split at N;rotate_left;cases N;rename_i EW;obtain⟨H,B⟩:=nD N;obtain⟨m3,m4⟩:=nE N;have hr:r=(s,false):=m4 Z;subst hr;have U:∃k y e,v = .mk k 0 0 [] y [] []/\(∀x∈y,Fit e x)/\(if cL t=13 then .mk 11 (aQ t)else aL t 0)=e:=by
  obtain⟨T,ts⟩:=t;have j:=M.2;rcases EW with rfl|rfl
  obtain⟨t1,rfl,FW⟩:=dD (bw V.1) bn;obtain⟨l,rfl,yF,Y,W⟩:=oT V.2.1 V.2.2;simp only[aG]at j;exact⟨10,l,t1,Z,λx O=>⟨eX (fQ V.1 _ cS) ⟨(eI _ l).1 Y x O,rq W O⟩,sy⟩,Z⟩;obtain⟨t1,t2,rfl,FW,Q6⟩:=dr (bw V.1) bn;obtain⟨l,rfl,yF,Y,ω,W⟩:=va V.2.1 V.2.2;simp only[aG]at j;exact⟨13,l,.mk 11 [t1,t2],Z,λx O=>⟨eX (Ca V.1) ⟨(eI _ l).1 Y x O,rq W O⟩,sy⟩,Z⟩
 obtain⟨k,y,e0,rfl,Q,he⟩:=U;rw[he]at H B;have e:aA 60 [.mk 3 P q1 E G] ⟨a,b,c,d,.mk k 0 0 [] y [] []::q,C,g,u,m,K⟩=(0,sE ⟨a,b,c,d,q,C,g,u,m,K⟩ G 3 y):=by unfold aA;rfl
 unfold bt;rw[e]
 refine⟨gO _ _ 2 A 60 p _ [_] q _ bn (by rw[VT];rfl) (by show List.length (Vl.mk k 0 0 [] y [] []::q)<=_;simp only[aat];omega) (Nq ⟨a,b,c,d,q,C,g,u,m,K⟩ A p P q1 E G k 0 [] [] [] 0 y bT J),
  .inr (.inl ⟨Z,⟨G,G.length,3,y⟩,s,Z,o,hq,λh=>?_⟩)⟩
 refine⟨aeu,o,acd _,s,false,adz,λ_ => .inr (.inr (.inr (.inl ⟨Z,e0,Q,by show s.length+1+cV G<=340;omega,⟨_,_,rM H,λhf=>?_⟩,h Z⟩)))⟩;have:=B hf;rw[<- this]
def Ut(x S T p F)(C:lg F)(z s)(r:Γ×Bool)(hf:bB 65 F=some z)(I:dj s S.st)(U:s.length+cV F<=339)(J:S.fr.length<=1099511627776)(D:dY 65 F (b8 F) z s=(r,0)):bt T p 65 F S/\Comes x S r (aA 65 F S):=by
 obtain⟨a,b,c,d,st,fr,g,u,m,K⟩:=S;obtain⟨W,q1,E,G,rfl,rfl⟩:=Cd hf bn;obtain⟨y,A⟩:=aaB C;have Q:=bH I;cases s with
 |nil=>cases D
 |cons t s =>
 obtain⟨v,q,rfl,P,o⟩:=aK I;simp at Q U;have O:(if cL t=2 then(if(cJ (bU G (s,false)) (fO (t::s))).2≠0 then br (cJ (bU G (s,false)) (fO (t::s))).2 else fO s)else br 5)=(r,0):=D;split at O;rotate_left;cases O;rename_i N;split at O;rename_i Y;exact absurd (ahm Prod.snd O) Y;rename_i Y;simp at Y;cases O;obtain⟨M,V⟩:=nD (a:=bU G (s,false)) (b:=fO (t::s)) (r:=(cJ (bU G (s,false)) (fO (t::s))).1) agu;obtain⟨j,H⟩:=nE (a:=bU G (s,false)) (b:=fO (t::s)) (r:=(cJ (bU G (s,false)) (fO (t::s))).1) agu;have B:=H Z;rw[B]at V;have e:aA 65 [.mk 3 W q1 E G] ⟨a,b,c,d,v::q,fr,g,u,m,K⟩=(0,{sE ⟨a,b,c,d,q,fr,g,u,m,K⟩ G 4 []with st:=v::q}):=by unfold aA;rfl
 refine⟨gO _ _ 2 T 65 p _ [_] q _ bn (by rw[VU];rfl) (by show List.length (v::q)<=_;simp;omega) (Nr ⟨a,b,c,d,q,fr,g,u,m,K⟩ T p W q1 E G v bT J),
  .inr (.inl ⟨Z,⟨G,G.length,4,[]⟩,t::s,Z,y,⟨P,o⟩,λh=>?_⟩)⟩
 refine⟨by show(t::s).length+cV G<=340;simp;omega,y,acd _,t::s,false,acC,λ_ => .inr (.inr (.inr (.inr ⟨Z,t,s,Z,N,aeu,⟨_,_,rM M,λhf=>?_⟩,h Z⟩)))⟩;have:=V hf;rw[<- this];rfl
def XH(A S T p N)(B:lg N)(M s)(r:Γ×Bool)(hf:bB 68 N=some M)(I:dj s S.st)(U:s.length+cV N<=339)(J:S.fr.length<=1099511627776)(D:dY 68 N (b8 N) M s=(r,0)):bt T p 68 N S/\Comes A S r (aA 68 N S):=by
 obtain⟨a,b,c,d,st,C,g,u,m,K⟩:=S;obtain⟨W,q1,E,G,rfl,rfl⟩:=Cd hf bn;obtain⟨F,P⟩:=aaB B;have V:=bH I;cases s with
 |nil=>cases D
 |cons t s =>
 obtain⟨v,q,rfl,Q,z⟩:=aK I;simp at V U;have O:(if(bU G (s,false)).2≠0 then br (bU G (s,false)).2 else if(bU G (s,false)).1.2=true then br 1 else fO (t::(bU G (s,false)).1.1))=(r,0):=D;split at O;rename_i Y;exact absurd (ahm Prod.snd O) Y;rename_i Y;simp at Y;split at O;cases O;cases O;have e:aA 68 [.mk 3 W q1 E G] ⟨a,b,c,d,v::q,C,g,u,m,K⟩=(0,dZ ⟨a,b,c,d,q,C,g,u,m,K⟩ G 1 [v]):=by unfold aA;rfl
 refine⟨gO _ _ 2 T 68 p _ [_] q _ bn (by rw[VW];rfl) (by show List.length (v::q)<=_;simp;omega) (QY ⟨a,b,c,d,q,C,g,u,m,K⟩ T p W q1 E G v bT J),
  .inr (.inl ⟨Z,⟨G,0,1,[v]⟩,s,Z,F,z,λh=>?_⟩)⟩
 exact⟨aeu,F,ahp _,_,_,rM Y,λ_ => .inr (.inl ⟨Z,acd _,[t],⟨Q,trivial⟩,h Z⟩)⟩
def Uu(y S A p F z s)(r:Γ×Bool)(hf:bB 67 F=some z)(I:dj s S.st)(E:s.length+cV F<=339)(J:S.fr.length<=1099511627776)(D:dY 67 F (b8 F) z s=(r,0)):bt A p 67 F S/\Comes y S r (aA 67 F S):=by
 obtain⟨a,b,c,d,st,fr,g,u,m,K⟩:=S;obtain⟨rfl,rfl⟩:=cQ hf bn;have Q:=bH I;rcases s with _|⟨t1,_|⟨Y,s⟩⟩
 cases D;cases D;obtain⟨v,i,rfl,P,N⟩:=aK I;obtain⟨w,q,rfl,M,hq⟩:=aK N;have G:=bW M.1;simp at Q E;have O:(if cL Y=14/\cx t1 (aL Y 0) then fO (aL Y 1::s)else br 5)=(r,0):=D;split at O;rotate_left;cases O;rename_i B;obtain⟨T,f⟩:=Y;obtain⟨V,H⟩:=B;subst V;obtain⟨t,W,rfl,FW,Q6⟩:=dr (bw G.1) bn;cases O;have x:t1=t:=(eD _ _).1 H;subst x;obtain⟨code,rfl,C,o,U,Zx⟩:=N5 G.2.1 G.2.2;have j:=om C;have e:aA 67 [] ⟨a,b,c,d,v :: .mk 14 0 0 [] [] [t1,W] code::q,fr,g,u,m,K⟩=(0,{dZ ⟨a,b,c,d,q,fr,g,u,m,K⟩ code 2 q.reverse with st:=[v]}):=by unfold aA;rfl
 refine⟨gO _ _ 2 A 67 p _ [_,_] q _ bn (by rw[N4];rfl) (by show List.length (v::Vl.mk 14 0 0 [] [] [t1,W] code::q)<=_;simp;omega) (Ns ⟨a,b,c,d,q,fr,g,u,m,K⟩ A p v 14 0 [] [t1,W] code 0 [] bT J),
  .inr (.inl ⟨Z,⟨code,0,2,q.reverse⟩,[t1],Z,C,⟨P,trivial⟩,λh=>?_⟩)⟩
 refine⟨by show List.length [t1]+cV code<=340;simp;omega,C,ahp _,_,_,rM o,λhf => .inr (.inr (.inl ⟨Z,by show q.reverse.length<=340;rw[acy];omega,W,s,U hf,WT,h Z⟩))⟩
def Oa(j S T p F)(B:lg F)(z s)(r:Γ×Bool)(hf:bB 66 F=some z)(I:dj s S.st)(hl:s.length+cV F<=339)(J:S.fr.length<=1099511627776)(N:r.1.all bA)(D:dY 66 F (b8 F) z s=(r,0)):bt T p 66 F S/\Comes j S r (aA 66 F S):=by
 obtain⟨a,b,c,d,q,C,g,u,m,K⟩:=S;have P:=Cb B;obtain⟨x,y,W,q1,E,G,rfl,hx,hy,rfl⟩:=aaA hf bn;obtain⟨i,gz⟩:=qk B (show Nd.mk 3 W q1 E G∈_ from aix _ (aix _ (ajW ..)));have Q:=bH I;simp only at I Q;have O:(if dH G=true then br 5 else if(cJ (bU G ([(aM x).1],false)) (fO [(aM y).1])).2≠0 then br (cJ (bU G ([(aM x).1],false)) (fO [(aM y).1])).2 else fO (.mk 14 [(aM x).1,(aM y).1]::s))=(r,0):=by obtain⟨kx,nx,px,M,ax⟩:=x;obtain⟨ky,ny,py,H,ay⟩:=y;exact D
 split at O;cases O;rename_i A;split at O;rename_i Y;exact absurd (ahm Prod.snd O) Y;rename_i Y;simp at Y;cases O;obtain⟨V,U⟩:=nD (a:=bU G ([(aM x).1],false)) (b:=fO [(aM y).1]) (r:=(cJ (bU G ([(aM x).1],false)) (fO [(aM y).1])).1) agu;obtain⟨m3,f⟩:=nE (a:=bU G ([(aM x).1],false)) (b:=fO [(aM y).1]) (r:=(cJ (bU G ([(aM x).1],false)) (fO [(aM y).1])).1) agu;have hr:=f Z;rw[hr]at U;simp only[aP,bE]at P;have M:bh (aM x).1<=1000000:=by
  rcases z8 x with ⟨t,o,_,_,h4⟩|o
  grind;rw[o];decide
 have H:bh (aM y).1<=1000000:=by
  rcases z8 y with ⟨t,o,_,_,h4⟩|o
  grind;rw[o];decide
 have gx:bA (aM x).1:=fQ (bK N) _ cS;have e:aA 66 [x,y,.mk 3 W q1 E G] ⟨a,b,c,d,q,C,g,u,m,K⟩=bg ⟨a,b,c,d,q,C,g,u,m,K⟩ [.mk 14 0 0 [] [] [(aM x).1,(aM y).1] G]:=by unfold aA;rfl
 have hv:bJ (.mk 14 0 0 [] [] [(aM x).1,(aM y).1] G) (.mk 14 [(aM x).1,(aM y).1])/\fE (.mk 14 0 0 [] [] [(aM x).1,(aM y).1] G):=by
  constructor;unfold bJ;simp[cG,cL,aL,aQ,(eD _ _).2 rfl];rw[Ia 14 0 0 [] [] _ _ G rfl];rw[ac0 i Z,if_neg cS,if_pos (by simp[gx])];simp only[cw,aaI,Bool.or_eq_true,akX];refine⟨⟨by first|exact V|exact ace V,?_⟩,by simpa using A⟩;cases hb:(bU G ([(aM x).1],false)).1.2 with
  |true=>exact .inl Z
  |false =>
   right;rw[<- U hb];exact(lE _ _).2 Z
 unfold bt;rw[e]
 exact⟨gO _ _ 2 T 66 p _ [] q _ bn (by rw[VV];rfl) bT (IZ ⟨a,b,c,d,q,C,g,u,m,K⟩ T p x y W q1 E G ai ai (by simp only[aG,aH,bf,aav];omega) bT J),
  .inl (cu (S:=⟨a,b,c,d,q,C,g,u,m,K⟩) (eX (bK N) hv) I)⟩
def jP(S:bM)(F:iH)(t:List iH):MR :=
 if F.fin=1 then(0,{S with st:=F.aside.reverse++S.st,fr:=t})
 else if F.fin=2 then(match S.st with
  |[]=>(14,S)
  |v::_=>(0,{S with st:=v::F.aside.reverse,fr:=t}))
 else if F.fin=3 then(match F.aside with
  |[]=>(0,{S with fr:=t})
  |x::q=>if S.bC<=S.used then(12,S)else(0,{S with st:=x::S.st,fr:=⟨F.code,0,3,q⟩::t,used:=S.used+1}))
 else if F.fin=4 then(match S.st with
  |[]=>(14,S)
  |v::q=>if vN v=1 then(if S.bC<=S.used then(12,{S with st:=q})else(0,{S with st:=q,fr:=⟨F.code,0,4,F.aside⟩::t,used:=S.used+1}))else(0,{S with st:=q,fr:=t}))
 else(0,{S with fr:=t})
def kU:Nat->bM->MR
 |0,S=>(12,S)
 |k+1,S=>match S.fr with
  |[]=>(0,S)
  |F::t=>if F.pos=F.code.length then(if(jP S F t).1=0 then kU k (jP S F t).2 else jP S F t)
   else match F.code[F.pos]? with
    |none=>(14,S)
    |some (.mk T N P s Y) =>
     if T=3 then kU k (dZ (gU S F t) Y 0 [])
     else if T≠2 then(14,gU S F t)
     else if S.bC<=S.used then(12,gU S F t)
     else if(aA P Y {gU S F t with used:=S.used+1}).1=0 then kU k (aA P Y {gU S F t with used:=S.used+1}).2 else aA P Y {gU S F t with used:=S.used+1}
structure MT(pr:List Ty×Bool)(S:bM)(s:List Ty):Prop where
 fit:dj s S.st
 ft:FT pr S.fr s
 env:qP S.self S.jr S.js S.balance=true
 aaG:0<=S.aj/\S.aj<=bL
 used:0<=S.used/\S.used<=S.bC
 bC:S.bC<=1000000
def left(S:bM):Nat:=(S.bC-S.used).toNat*900+Bf S.fr
def Je(S u:bM):Prop:=u.self=S.self/\u.jr=S.jr/\u.js=S.js/\u.balance=S.balance/\u.bC=S.bC
def UA(V:Γ×Bool)(S:bM)(o:MR):Prop :=
 Je S o.2/\(0<=o.2.used/\o.2.used<=o.2.bC)/\(0<=o.2.aj/\o.2.aj<=bL) /\
 ((o.1=0/\∃Y,MT V o.2 Y/\left o.2<left S)\/o.1=11\/o.1=13\/(o.1=12/\o.2.used=o.2.bC)\/(o.1=10/\vK o.2.said≠0/\aG o.2.said<=25000000))
def Rz{l:Θ}{i x}(h:l[i]?=some x):cV (l.drop i)=many x+cV (l.drop (i+1)):=by
 have e:l.drop i=x::l.drop (i+1):=by obtain⟨Y,V⟩:=List.getElem?_eq_some_iff.1 h;rw[ajF Y,V]
 rw[e];rfl
def aaH(l i):cV (l.drop i)<=cV l:=by
 induction i generalizing l with
 |zero=>exact acd _
 |succ i S=>cases l with
  |nil=>exact acd _
  |cons x l=>have:=S l;simp only[aje,cV];omega
def Cf{c}[Decidable c]{Q:MR->Prop}{a b}(Y:c->Q a)(V:¬c->Q b):Q (if c then a else b):=by grind
def Ob(S F t)(h:S.fr=F::t)(hf:F.fin=0\/F.fin=1\/F.fin=2\/F.fin=3\/F.fin=4)(V:S.st.length<=500000000)(J:F.fin=1\/F.fin=2->F.aside.length<=500000000)(E:t.length<=1099511627776)(G:VY S.bC)(p:0<=S.used) :
  jT 95 S [.ptr 1000002 (0+t.length*4)] (jP S F t):=by
 obtain⟨a,b,c,d,Y,C,g,u,m,K⟩:=S;obtain⟨code,W,fin,P⟩:=F;subst h;rcases hf with rfl|rfl|rfl|rfl|rfl
 exact Oc ⟨a,b,c,d,Y,⟨code,W,0,P⟩::t,g,u,m,K⟩ ⟨code,W,0,P⟩ t Z Z E;exact UB a b c d Y g u m K code W P t V (J (.inl Z)) E
 ·cases Y with
  |nil=>exact Od a b c d [] g u m K code W P t E
  |cons v Y =>
   simp at V;cases P with
   |nil=>exact Oe a b c d v Y g u m K code W t ai E
   |cons x q=>exact Of a b c d v Y g u m K code W x q t ai (by have:=J (.inr Z);simp at this;omega) E
 ·cases P with
  |nil=>exact Og a b c d Y g u m K code W t E
  |cons x q =>
   show jT _ _ _ (if g<=u then _ else _:MR);by_cases N:g<=u;rw[if_pos N];exact Oh a b c d Y g u m K code W x q t N E;rw[if_neg N];exact Oi a b c d Y g u m K code W x q t ai G p V E
 cases Y with
 |nil=>exact Oj a b c d [] g u m K code W P t cS E
 |cons v Y =>
  obtain⟨U,T,Q,H,I,O,B⟩:=v;simp at V;show jT _ _ _ (if T=1 then(if g<=u then _ else _)else _:MR);by_cases M:T=1;subst M;rw[if_pos rfl];by_cases N:g<=u;rw[if_pos N];exact Ok a b c d U Q H I O B Y g u m K code W P t N ai E;rw[if_neg N];exact Ol a b c d U Q H I O B Y g u m K code W P t ai G p ai E;rw[if_neg M];exact Om a b c d U T Q H I O B M Y g u m K code W P t ai E
def Dw{z:Γ×Bool}{S}{s:Γ}{F t}(i:MT z S s)(h:S.fr=F::t)(f:F.pos=F.code.length):(F.fin=0\/F.fin=1\/F.fin=2\/F.fin=3\/F.fin=4)/\(F.fin=1\/F.fin=2->F.aside.length<=500000000)/\UA z S (jP S F t):=by
 obtain⟨M,ru,Q,W,V,O⟩:=i;obtain⟨a,b,c,d,Y,fr,g,u,m,K⟩:=S;obtain⟨code,pos,fin,P⟩:=F;simp only at *;subst h;subst f;obtain⟨f1,G,f3,s',f',J,A⟩:=ru;simp only at f1 G f3 J A;have p:(s,false)=(s',f'):=by unfold Ad at J;rw[ua]at J;simp only[bU,ajP,akb]at J;rw[ajP];exact J
 simp only[ajP]at p;obtain⟨rfl,rfl⟩:=p;have g0:=om G;have N:Bf (⟨code,code.length,fin,P⟩::t)=1+Bf t:=by simp only[Bf,frW,ua,cV]
 have hz:cV (code.drop 0)=cV code:=rfl;rcases A rfl with ⟨rfl,k⟩|⟨rfl,k0,w,T,k⟩|⟨rfl,k0,t0,w,T,E,k⟩|⟨rfl,e,T,E,⟨H,U,I,D⟩,k⟩|⟨rfl,a0,C,T,E,I,⟨H,U,D,o⟩,k⟩
 refine⟨.inl rfl,(λh=>by rcases h with h|h<;>cases h),⟨rfl,rfl,rfl,rfl,rfl⟩,V,W,.inl ⟨rfl,s,⟨M,k,Q,W,V,O⟩,?_⟩⟩;show left ⟨a,b,c,d,Y,t,g,u,m,K⟩<left ⟨a,b,c,d,Y,⟨code,code.length,0,P⟩::t,g,u,m,K⟩;simp only[left,N];omega;refine⟨.inr (.inl Z),λ_=>by omega,⟨Z,Z,Z,Z,Z⟩,V,W,.inl ⟨Z,w++s,⟨Ai T M,k,Q,W,V,O⟩,?_⟩⟩;show left ⟨a,b,c,d,P.reverse++Y,t,g,u,m,K⟩<left ⟨a,b,c,d,Y,⟨code,code.length,1,P⟩::t,g,u,m,K⟩;simp only[left,N];omega;refine⟨.inr (.inr (.inl Z)),λ_=>by omega,?_⟩;subst T;obtain⟨v,q,rfl,j,r⟩:=aK M;refine⟨⟨Z,Z,Z,Z,Z⟩,V,W,.inl ⟨Z,t0::w,⟨⟨j,E⟩,k,Q,W,V,O⟩,?_⟩⟩;show left ⟨a,b,c,d,v::P.reverse,t,g,u,m,K⟩<left ⟨a,b,c,d,v::q,⟨code,code.length,2,P⟩::t,g,u,m,K⟩;simp only[left,N];omega
 ·refine⟨.inr (.inr (.inr (.inl rfl))),(λh=>by rcases h with h|h<;>cases h),?_⟩;cases P with
  |nil =>
   refine⟨⟨Z,Z,Z,Z,Z⟩,V,W,.inl ⟨Z,s,⟨M,k,Q,W,V,O⟩,?_⟩⟩;show left ⟨a,b,c,d,Y,t,g,u,m,K⟩<left ⟨a,b,c,d,Y,⟨code,code.length,3,[]⟩::t,g,u,m,K⟩;simp only[left,N];omega
  |cons x q =>
   show UA z _ (if g<=u then _ else _:MR);refine Cf (λB=>?_) (λB=>?_);exact⟨⟨Z,Z,Z,Z,Z⟩,V,W,.inr (.inr (.inr (.inl ⟨Z,by show u=g;omega⟩)))⟩;refine⟨⟨Z,Z,Z,Z,Z⟩,⟨afh,afk⟩,W,.inl ⟨Z,e::s,⟨⟨T x cS,M⟩,?_,Q,W,⟨afh,afk⟩,O⟩,?_⟩⟩;refine⟨by show s.length+1+cV code<=340;exact E,G,ahp _,H,U,I,λhf=>?_⟩;have e3:=D hf;rw[e3];refine .inr (.inr (.inr (.inl ⟨Z,e,λy hy=>T y (by simp[hy]),E,⟨H,U,I,D⟩,k⟩)));show left ⟨a,b,c,d,x::Y,⟨code,0,3,q⟩::t,g,u+1,m,K⟩<left ⟨a,b,c,d,Y,⟨code,code.length,3,x::q⟩::t,g,u,m,K⟩;simp only[left,N];simp only[Bf,frW,ajS];omega
 refine⟨.inr (.inr (.inr (.inr rfl))),(λh=>by rcases h with h|h<;>cases h),?_⟩;subst T;obtain⟨v,q,rfl,j,r⟩:=aK M;show UA z _ (if vN v=1 then(if g<=u then _ else _)else _:MR);refine Cf (λhn=>Cf (λB=>?_) (λB=>?_)) (λhn=>?_);exact⟨⟨Z,Z,Z,Z,Z⟩,V,W,.inr (.inr (.inr (.inl ⟨Z,by show u=g;omega⟩)))⟩;refine⟨⟨Z,Z,Z,Z,Z⟩,⟨afh,afk⟩,W,.inl ⟨Z,C,⟨r,?_,Q,W,⟨afh,afk⟩,O⟩,?_⟩⟩;refine⟨I,G,ahp _,H,U,D,λhf => .inr (.inr (.inr (.inr ⟨Z,a0,C,o hf,E,I,⟨H,U,D,o⟩,k⟩)))⟩;show left ⟨a,b,c,d,q,⟨code,0,4,P⟩::t,g,u+1,m,K⟩<left ⟨a,b,c,d,v::q,⟨code,code.length,4,P⟩::t,g,u,m,K⟩;simp only[left,N];simp only[Bf,frW,ajS];omega;refine⟨⟨Z,Z,Z,Z,Z⟩,V,W,.inl ⟨Z,C,⟨r,k,Q,W,V,O⟩,?_⟩⟩;show left ⟨a,b,c,d,q,t,g,u,m,K⟩<left ⟨a,b,c,d,v::q,⟨code,code.length,4,P⟩::t,g,u,m,K⟩;simp only[left,N];omega
end Go.Proofs
