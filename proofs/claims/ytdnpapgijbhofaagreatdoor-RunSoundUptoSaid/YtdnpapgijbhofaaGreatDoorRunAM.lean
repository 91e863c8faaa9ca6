/- Package run: -/
import Derived.Test.YtdnpapgijbhofaaGreatDoorRunAJ
import Derived.Test.YtdnpapgijbhofaaGreatDoorRunH
set_option linter.defProp false
set_option linter.unusedVariables false
set_option linter.unusedSimpArgs false
namespace Go.Proofs
open Go.cM
def qP{C:L Ty×Bool}{S:b9}{c:L Nd}{l:L Vl}{Q:L Ty}{r:L Ty×Bool}(A:(cy c (Q,false)).2=0)(E:(cy c (Q,false)).1.2=false->r=(cy c (Q,false)).1)(B:Q.length+cF c<=340)(W:iH c)
  (Y:dH Q (l.reverse++S.st)):Comes C S r (bp (dG S c 0 []) l):=by
 rcases A2 l S.st with h1|⟨h1,h2,K⟩
 ·exact .inl (.inr (.inr h1))
 ·refine .inr (.inl ⟨h1,⟨c,0,0,[]⟩,Q,Z,W,?_,λh=>FO A E B W h⟩);show dH _ (mB l S.st).2;rw[h2];exact Y
def wC{C:L Ty×Bool}{S:b9}{c:L Nd}{Q:L Ty}{r:L Ty×Bool}(A:(cy c (Q,false)).2=0)(E:(cy c (Q,false)).1.2=false->r=(cy c (Q,false)).1)(B:Q.length+cF c<=340)(W:iH c)
  (Y:dH Q S.st):Comes C S r (0,dG S c 0 []) :=
 .inr (.inl ⟨Z,⟨c,0,0,[]⟩,Q,Z,W,Y,λh=>FO A E B W h⟩)
def ML{W q1:Int}{u:L UInt8}{Y:L Nd}{O N:Int}{V:L UInt8}{C:L Nd}(h:iH [.mk 3 W q1 u Y,.mk 3 O N V C]):iH Y/\iH C/\cF [.mk 3 W q1 u Y,.mk 3 O N V C]=cF Y+cF C+2 :=
 ⟨(nZ h (abB ..)).1,(nZ h (aaM _ (abB ..))).1,by simp only[cF,many];try omega⟩
def Rm{W q1:Int}{u:L UInt8}{Y:L Nd}(h:iH [.mk 3 W q1 u Y]):iH Y/\cF [.mk 3 W q1 u Y]=cF Y+1 :=
 ⟨(nZ h (abB ..)).1,by simp only[cF,many];try omega⟩
def Gk(pr:L Ty×Bool)(S:b9)(V:Int)(P:L UInt8)(J:L Nd)(vC:iH J)(Y s:L Ty)(r:L Ty×Bool)(hf:bJ 52 J=some Y)(B:dH s S.st)(hl:s.length+cF J<=339)(Q:S.fr.length<=1099511627776)(hc:aV 52 (aX J) Y s=(r,0)):bf V P 52 J S/\Comes pr S r (aH 52 J S):=by
 obtain⟨a,b,c,d,st,H,g,u,m,G⟩:=S;obtain⟨U,q1,O,W,N,K,E,C,rfl,rfl⟩:=AX hf cc;obtain⟨g1,g2,gz⟩:=ML vC;rw[gz]at hl;have eu:=bF B;simp only at B eu;cases s with
 |nil=>cases hc
 |cons t s =>
 obtain⟨v,q,rfl,A,hq⟩:=bh B;have M:=cN A.1;simp only[aac]at eu hl;have D:(if bM t=12 then cR (cy W (aD t 0::s,false)) (cy C (aD t 1::s,false))else aM 5)=(r,0):=hc;split at D;rotate_left
 ·cases D
 rename_i GU;obtain⟨T,ts⟩:=t;simp only[bM]at GU;subst GU;obtain⟨t1,t2,rfl,Mw,R9⟩:=eD (cG M.1) cc;obtain⟨x,I,YG⟩:=VG M.2.1 M.2.2;obtain⟨m1,m2⟩:=rY D;obtain⟨m3,m4⟩:=rZ D;unfold bf;rcases I with ⟨rfl,I⟩|⟨rfl,I⟩
 ·have p:=A.2;simp only[aO,aK,bg,aS,aad]at p;have e:aH 52 [.mk 3 U q1 O W,.mk 3 N K E C] ⟨a,b,c,d,.mk 12 0 0 [] [x] [] []::q,H,g,u,m,G⟩=bp (dG ⟨a,b,c,d,q,H,g,u,m,G⟩ W 0 []) [x]:=by unfold aH;rw[AY];rfl
  rw[e]
  exact⟨ff _ _ 2 V 52 P _ [_] q _ cc (by rw[AY];rfl) (by show List.length (Vl.mk 12 0 0 [] [x] [] []::q)<=_;simp only[aac];omega) (Ds ⟨a,b,c,d,q,H,g,u,m,G⟩ V P U q1 O W N K E C 12 0 [] [] [] x bn c9 Q),
   qP (S:=⟨a,b,c,d,q,H,g,u,m,G⟩) m1 m2 fc g1 ⟨⟨eW (og M.1 _ (by simp[aD,aq])) ⟨I,YG⟩,bn⟩,hq⟩⟩
 ·have p:=A.2;simp only[aO,aK,bg,aS,aad]at p;have e:aH 52 [.mk 3 U q1 O W,.mk 3 N K E C] ⟨a,b,c,d,.mk 12 1 0 [] [x] [] []::q,H,g,u,m,G⟩=bp (dG ⟨a,b,c,d,q,H,g,u,m,G⟩ C 0 []) [x]:=by unfold aH;rw[AY];rfl
  rw[e]
  exact⟨ff _ _ 2 V 52 P _ [_] q _ cc (by rw[AY];rfl) (by show List.length (Vl.mk 12 1 0 [] [x] [] []::q)<=_;simp only[aac];omega) (Dt ⟨a,b,c,d,q,H,g,u,m,G⟩ V P U q1 O W N K E C 12 0 [] [] [] x bn c9 Q),
   qP (S:=⟨a,b,c,d,q,H,g,u,m,G⟩) m3 m4 fc g2 ⟨⟨eW (og M.1 _ (by simp[aD,aq])) ⟨I,YG⟩,bn⟩,hq⟩⟩
def Gl(pr:L Ty×Bool)(S:b9)(V:Int)(P:L UInt8)(J:L Nd)(vC:iH J)(Y s:L Ty)(r:L Ty×Bool)(hf:bJ 55 J=some Y)(D:dH s S.st)(B:s.length+cF J<=339)(Q:S.fr.length<=1099511627776)(A:aV 55 (aX J) Y s=(r,0)):bf V P 55 J S/\Comes pr S r (aH 55 J S):=by
 obtain⟨a,b,c,d,st,H,g,u,m,G⟩:=S;obtain⟨U,q1,O,W,N,M,K,C,rfl,rfl⟩:=AX hf cc;obtain⟨g1,g2,gz⟩:=ML vC;rw[gz]at B;have p:=bF D;simp only at D p;cases s with
 |nil=>cases A
 |cons t s =>
 obtain⟨v,q,rfl,hv,hq⟩:=bh D;have I:=cN hv.1;simp only[aac]at p B;have E:(if bM t=9 then cR (cy W (s,false)) (cy C (aD t 0::s,false))else aM 5)=(r,0):=A;split at E;rotate_left
 ·cases E
 rename_i GU;obtain⟨T,ts⟩:=t;simp only[bM]at GU;subst GU;obtain⟨t1,rfl,Mw⟩:=eN (cG I.1) cc;obtain⟨m1,m2⟩:=rY E;obtain⟨m3,m4⟩:=rZ E;unfold bf;rcases MF I.2.1 I.2.2 with rfl|⟨x,rfl,hx,YG⟩
 ·have e:aH 55 [.mk 3 U q1 O W,.mk 3 N M K C] ⟨a,b,c,d,cw []::q,H,g,u,m,G⟩=bp (dG ⟨a,b,c,d,q,H,g,u,m,G⟩ W 0 []) []:=by unfold aH;rw[AZ];rfl
  rw[e]
  exact⟨ff _ _ 2 V 55 P _ [_] q _ cc (by rw[AZ];rfl) (by show List.length (cw []::q)<=_;simp only[aac];omega) (Du ⟨a,b,c,d,q,H,g,u,m,G⟩ V P U q1 O W N M K C 9 0 [] [] [] 0 c9 Q),
   qP (S:=⟨a,b,c,d,q,H,g,u,m,G⟩) m1 m2 bn g1 hq⟩
 ·have hz:=hv.2;simp only[cw,aO,aK,bg,aS,aad]at hz;have e:aH 55 [.mk 3 U q1 O W,.mk 3 N M K C] ⟨a,b,c,d,cw [x]::q,H,g,u,m,G⟩=bp (dG ⟨a,b,c,d,q,H,g,u,m,G⟩ C 0 []) [x]:=by unfold aH;rw[AZ];rfl
  rw[e]
  exact⟨ff _ _ 2 V 55 P _ [_] q _ cc (by rw[AZ];rfl) (by show List.length (cw [x]::q)<=_;simp only[aac];omega) (Dv ⟨a,b,c,d,q,H,g,u,m,G⟩ V P U q1 O W N M K C 9 0 [] [] [] 0 x bn c9 Q),
   qP (S:=⟨a,b,c,d,q,H,g,u,m,G⟩) m3 m4 fc g2 ⟨⟨eW (og I.1 _ (by simp[aD,aq])) ⟨hx,YG⟩,bn⟩,hq⟩⟩
def Gm(pr:L Ty×Bool)(S:b9)(Q:Int)(P:L UInt8)(J:L Nd)(vC:iH J)(Y s:L Ty)(r:L Ty×Bool)(hf:bJ 58 J=some Y)(A:dH s S.st)(p:s.length+cF J<=339)(O:S.fr.length<=1099511627776)(hc:aV 58 (aX J) Y s=(r,0)):bf Q P 58 J S/\Comes pr S r (aH 58 J S):=by
 obtain⟨a,b,c,d,st,H,g,u,m,G⟩:=S;obtain⟨N,q1,K,U,I,E,D,C,rfl,rfl⟩:=AX hf cc;obtain⟨g1,g2,gz⟩:=ML vC;rw[gz]at p;have eu:=bF A;simp only at A eu;cases s with
 |nil=>cases hc
 |cons t s =>
 obtain⟨v,q,rfl,hv,hq⟩:=bh A;have M:=cN hv.1;simp only[aac]at eu p;have B:(if bM t=10 then cR (cy U (aD t 0::t::s,false)) (cy C (s,false))else aM 5)=(r,0):=hc;split at B;rotate_left
 ·cases B
 rename_i GU;obtain⟨T,ts⟩:=t;simp only[bM]at GU;subst GU;obtain⟨t1,rfl,Mw⟩:=eN (cG M.1) cc;obtain⟨m1,m2⟩:=rY B;obtain⟨m3,m4⟩:=rZ B;unfold bf;obtain⟨l,rfl,wK,W,V⟩:=xQ M.2.1 M.2.2;cases l with
 |nil =>
  have e:aH 58 [.mk 3 N q1 K U,.mk 3 I E D C] ⟨a,b,c,d,.mk 10 0 0 [] [] [] []::q,H,g,u,m,G⟩=(0,dG ⟨a,b,c,d,q,H,g,u,m,G⟩ C 0 []):=by unfold aH;rw[A0];rfl
  rw[e]
  exact⟨ff _ _ 2 Q 58 P _ [_] q _ cc (by rw[A0];rfl) (by show List.length (Vl.mk 10 0 0 [] [] [] []::q)<=_;simp only[aac];omega) (Dw ⟨a,b,c,d,q,H,g,u,m,G⟩ Q P N q1 K U I E D C 10 0 [] [] [] 0 c9 O),
   wC (S:=⟨a,b,c,d,q,H,g,u,m,G⟩) m3 m4 bn g2 hq⟩
 |cons x xs =>
  have hz:=hv.2;simp only[aO,aK,bg,aS,aad]at hz;have e:aH 58 [.mk 3 N q1 K U,.mk 3 I E D C] ⟨a,b,c,d,.mk 10 0 0 [] (x::xs) [] []::q,H,g,u,m,G⟩=bp (dG ⟨a,b,c,d,q,H,g,u,m,G⟩ U 0 []) [.mk 10 0 0 [] xs [] [],x]:=by unfold aH;rw[A0];rfl
  rw[e];simp only[aP,aal]at W;simp only[eg,aal]at V;simp only[aac]at wK
  exact⟨ff _ _ 2 Q 58 P _ [_] q _ cc (by rw[A0];rfl) (by show List.length (Vl.mk 10 0 0 [] (x::xs) [] []::q)<=_;simp only[aac];omega) (Dx ⟨a,b,c,d,q,H,g,u,m,G⟩ Q P N q1 K U I E D C 10 0 [] [] [] 0 x xs bn (by simp only[aO,bg,aS,aad];omega) c9 O),
   qP (S:=⟨a,b,c,d,q,H,g,u,m,G⟩) m1 m2 fc g1 ⟨⟨eW (og M.1 _ (by simp[aD,aq])) ⟨W.1,V.1⟩,bn⟩,⟨eW M.1 (CB bn W.2 V.2),by simp only[aO,bg,aS,aad];omega⟩,hq⟩⟩
def Rn(pr:L Ty×Bool)(S:b9)(V:Int)(P:L UInt8)(J:L Nd)(vC:iH J)(Y s:L Ty)(r:L Ty×Bool)(hf:bJ 64 J=some Y)(E:dH s S.st)(B:s.length+cF J<=339)(Q:S.fr.length<=1099511627776)(A:cD 64 J (aX J) Y s=(r,0)):bf V P 64 J S/\Comes pr S r (aH 64 J S):=by
 obtain⟨a,b,c,d,st,H,g,u,m,G⟩:=S;obtain⟨U,q1,O,W,N,M,K,C,rfl,rfl⟩:=AX hf cc;obtain⟨g1,g2,gz⟩:=ML vC;rw[gz]at B;have D:=bF E;simp only at E D;cases s with
 |nil=>cases A
 |cons t s =>
 obtain⟨v,q,rfl,hv,hq⟩:=bh E;have f1:=cN hv.1;simp only[aac]at D B;have I:(if bM t=2 then cR (cy W (s,false)) (cy C (s,false))else aM 5)=(r,0):=A;split at I;rotate_left
 ·cases I
 rename_i p;obtain⟨T,ts⟩:=t;simp only[bM]at p;subst p;obtain⟨m1,m2⟩:=rY I;obtain⟨m3,m4⟩:=rZ I;unfold bf;rcases Ro f1.2.1 with rfl|rfl
 ·have e:aH 64 [.mk 3 U q1 O W,.mk 3 N M K C] ⟨a,b,c,d,aL 2 0::q,H,g,u,m,G⟩=(0,dG ⟨a,b,c,d,q,H,g,u,m,G⟩ C 0 []):=by unfold aH;rw[A1];rfl
  rw[e]
  exact⟨ff _ _ 2 V 64 P _ [_] q _ cc (by rw[A1];rfl) (by show List.length (aL 2 0::q)<=_;simp only[aac];omega) (Ii ⟨a,b,c,d,q,H,g,u,m,G⟩ V P U q1 O W N M K C 2 0 [] [] [] [] c9 Q),
   wC (S:=⟨a,b,c,d,q,H,g,u,m,G⟩) m3 m4 bn g2 hq⟩
 ·have e:aH 64 [.mk 3 U q1 O W,.mk 3 N M K C] ⟨a,b,c,d,aL 2 1::q,H,g,u,m,G⟩=(0,dG ⟨a,b,c,d,q,H,g,u,m,G⟩ W 0 []):=by unfold aH;rw[A1];rfl
  rw[e]
  exact⟨ff _ _ 2 V 64 P _ [_] q _ cc (by rw[A1];rfl) (by show List.length (aL 2 1::q)<=_;simp only[aac];omega) (Ij ⟨a,b,c,d,q,H,g,u,m,G⟩ V P U q1 O W N M K C 2 0 [] [] [] [] c9 Q),
   wC (S:=⟨a,b,c,d,q,H,g,u,m,G⟩) m1 m2 bn g1 hq⟩
def xS{α:Type}(l:List α):l.drop l.length=[]:=Zx
def Ln(pr:L Ty×Bool)(S:b9)(Q:Int)(O:L UInt8)(J:L Nd)(vC:iH J)(Y s:L Ty)(r:L Ty×Bool)(hf:bJ 60 J=some Y)(N:dH s S.st)(B:s.length+cF J<=339)(K:S.fr.length<=1099511627776)(A:cH 60 (aX J) Y s=(r,0)):bf Q O 60 J S/\Comes pr S r (aH 60 J S):=by
 obtain⟨a,b,c,d,st,H,g,u,m,G⟩:=S;obtain⟨p,q1,r1,W,rfl,rfl⟩:=Lm hf cc;obtain⟨g1,gz⟩:=Rm vC;rw[gz]at B;have eu:=bF N;simp only at N eu;cases s with
 |nil=>cases A
 |cons t s =>
 obtain⟨v,q,rfl,hv,hq⟩:=bh N;have M:=cN hv.1;simp only[aac]at eu B;have P:(if bM t=10\/bM t=13 then cR (cy W ((if bM t=13 then .mk 11 (aq t)else aD t 0)::s,false)) (dX s)else aM 5)=(r,0):=A;split at P;rotate_left
 ·cases P
 rename_i GU;obtain⟨m1,m2⟩:=rY P;obtain⟨m3,m4⟩:=rZ P;have hr:r=(s,false):=m4 Z;subst hr;have E:∃k xs e,v = .mk k 0 0 [] xs [] []/\(∀x∈xs,Fit e x)/\(if bM t=13 then .mk 11 (aq t)else aD t 0)=e:=by
  obtain⟨T,ts⟩:=t;simp only[bM]at GU;have hz:=hv.2;rcases GU with rfl|rfl
  ·obtain⟨D,rfl,Mw⟩:=eN (cG M.1) cc;obtain⟨l,rfl,wK,V,U⟩:=xQ M.2.1 M.2.2;simp only[aO,bg,aS,aad]at hz;exact⟨10,l,D,Z,λx I=>⟨eW (og M.1 _ ek) ⟨(eR _ l).1 V x I,CH U I⟩,Rg⟩,Z⟩
  ·obtain⟨D,t2,rfl,Mw,R9⟩:=eD (cG M.1) cc;obtain⟨l,rfl,wK,V,Th,U⟩:=AW M.2.1 M.2.2;simp only[aO,bg,aS,aad]at hz;exact⟨13,l,.mk 11 [D,t2],Z,λx I=>⟨eW (Lk M.1) ⟨(eR _ l).1 V x I,CH U I⟩,Rg⟩,Z⟩
 obtain⟨k,xs,e0,rfl,C,he⟩:=E;rw[he]at m1 m2;have e:aH 60 [.mk 3 p q1 r1 W] ⟨a,b,c,d,.mk k 0 0 [] xs [] []::q,H,g,u,m,G⟩=(0,uw ⟨a,b,c,d,q,H,g,u,m,G⟩ W 3 xs):=by unfold aH;rw[MG];rfl
 unfold bf;rw[e]
 refine⟨ff _ _ 2 Q 60 O _ [_] q _ cc (by rw[MG];rfl) (by show List.length (Vl.mk k 0 0 [] xs [] []::q)<=_;simp only[aac];omega) (FJ ⟨a,b,c,d,q,H,g,u,m,G⟩ Q O p q1 r1 W k 0 [] [] [] 0 xs c9 K),
  .inr (.inl ⟨Z,⟨W,W.length,3,xs⟩,s,Z,g1,hq,λh=>?_⟩)⟩
 refine⟨by show s.length+cF W<=340;omega,g1,aav _,s,false,by show cy (W.drop W.length) (s,false)=_;rw[xS];rfl,λ_ => .inr (.inr (.inr (.inl ⟨Z,e0,C,by show s.length+1+cF W<=340;omega,⟨_,_,zb m1,λhf=>?_⟩,h Z⟩)))⟩;have:=m2 hf;rw[<- this]
def Lo(C:L Ty×Bool)(S:b9)(T:Int)(U:L UInt8)(J:L Nd)(H:iH J)(G s:L Ty)(r:L Ty×Bool)(hf:bJ 65 J=some G)(Q:dH s S.st)(B:s.length+cF J<=339)(O:S.fr.length<=1099511627776)(A:cD 65 J (aX J) G s=(r,0)):bf T U 65 J S/\Comes C S r (aH 65 J S):=by
 obtain⟨a,b,c,d,st,fr,g,u,m,W⟩:=S;obtain⟨N,q1,M,Y,rfl,rfl⟩:=Lm hf cc;obtain⟨g1,E⟩:=Rm H;rw[E]at B;have K:=bF Q;simp only at Q K;cases s with
 |nil=>cases A
 |cons t s =>
 obtain⟨v,q,rfl,D,hq⟩:=bh Q;simp only[aac]at K B;have P:(if bM t=2 then(if(cR (cy Y (s,false)) (dX (t::s))).2≠0 then aM (cR (cy Y (s,false)) (dX (t::s))).2 else dX s)else aM 5)=(r,0):=A;split at P;rotate_left
 ·cases P
 rename_i p;split at P
 ·rename_i V;exact absurd (Zb Prod.snd P) V
 rename_i V;simp only[ne_eq,aaK]at V;cases P;obtain⟨m1,I⟩:=rY (a:=cy Y (s,false)) (b:=dX (t::s)) (r:=(cR (cy Y (s,false)) (dX (t::s))).1) (by rw[<- V]);obtain⟨m3,m4⟩:=rZ (a:=cy Y (s,false)) (b:=dX (t::s)) (r:=(cR (cy Y (s,false)) (dX (t::s))).1) (by rw[<- V]);have hr:=m4 Z;rw[hr]at I;have e:aH 65 [.mk 3 N q1 M Y] ⟨a,b,c,d,v::q,fr,g,u,m,W⟩=(0,{uw ⟨a,b,c,d,q,fr,g,u,m,W⟩ Y 4 []with st:=v::q}):=by unfold aH;rw[MH];rfl
 unfold bf;rw[e]
 refine⟨ff _ _ 2 T 65 U _ [_] q _ cc (by rw[MH];rfl) p5 (FK ⟨a,b,c,d,q,fr,g,u,m,W⟩ T U N q1 M Y v c9 O),
  .inr (.inl ⟨Z,⟨Y,Y.length,4,[]⟩,t::s,Z,g1,⟨D,hq⟩,λh=>?_⟩)⟩
 refine⟨by show(t::s).length+cF Y<=340;simp only[aac];omega,g1,aav _,t::s,false,by show cy (Y.drop Y.length) (t::s,false)=_;rw[xS];rfl,λ_ => .inr (.inr (.inr (.inr ⟨Z,t,s,Z,p,by show s.length+cF Y<=340;omega,⟨_,_,zb m1,λhf=>?_⟩,h Z⟩)))⟩;have:=I hf;rw[<- this];rfl
def Om(C:L Ty×Bool)(S:b9)(T:Int)(U:L UInt8)(J:L Nd)(I:iH J)(Y s:L Ty)(r:L Ty×Bool)(hf:bJ 68 J=some Y)(Q:dH s S.st)(B:s.length+cF J<=339)(O:S.fr.length<=1099511627776)(A:cD 68 J (aX J) Y s=(r,0)):bf T U 68 J S/\Comes C S r (aH 68 J S):=by
 obtain⟨a,b,c,d,st,H,g,u,m,G⟩:=S;obtain⟨N,q1,M,W,rfl,rfl⟩:=Lm hf cc;obtain⟨g1,E⟩:=Rm I;rw[E]at B;have K:=bF Q;simp only at Q K;cases s with
 |nil=>cases A
 |cons t s =>
 obtain⟨v,q,rfl,D,hq⟩:=bh Q;simp only[aac]at K B;have P:(if(cy W (s,false)).2≠0 then aM (cy W (s,false)).2 else if(cy W (s,false)).1.2=true then aM 1 else dX (t::(cy W (s,false)).1.1))=(r,0):=A;split at P
 ·rename_i V;exact absurd (Zb Prod.snd P) V
 rename_i V;simp only[ne_eq,aaK]at V;split at P
 ·cases P
 rename_i p;cases P;have e:aH 68 [.mk 3 N q1 M W] ⟨a,b,c,d,v::q,H,g,u,m,G⟩=(0,dG ⟨a,b,c,d,q,H,g,u,m,G⟩ W 1 [v]):=by unfold aH;rw[MK];rfl
 unfold bf;rw[e]
 refine⟨ff _ _ 2 T 68 U _ [_] q _ cc (by rw[MK];rfl) p5 (Ik ⟨a,b,c,d,q,H,g,u,m,G⟩ T U N q1 M W v c9 O),
  .inr (.inl ⟨Z,⟨W,0,1,[v]⟩,s,Z,g1,hq,λh=>?_⟩)⟩
 exact⟨by show s.length+cF W<=340;omega,g1,aaF _,_,_,zb V,λ_ => .inr (.inl ⟨Z,aav _,[t],⟨D,trivial⟩,h Z⟩)⟩
def Lp(C:L Ty×Bool)(S:b9)(P:Int)(N:L UInt8)(J:L Nd)(Y s:L Ty)(r:L Ty×Bool)(hf:bJ 67 J=some Y)(M:dH s S.st)(B:s.length+cF J<=339)(K:S.fr.length<=1099511627776)(A:cD 67 J (aX J) Y s=(r,0)):bf P N 67 J S/\Comes C S r (aH 67 J S):=by
 obtain⟨a,b,c,d,st,fr,g,u,m,G⟩:=S;obtain⟨rfl,rfl⟩:=cC hf cc;have E:=bF M;simp only at M E;rcases s with _|⟨O,_|⟨U,s⟩⟩
 ·cases A
 ·cases A
 obtain⟨v,q0,rfl,D,qo⟩:=bh M;obtain⟨w,q,rfl,hw,hq⟩:=bh qo;have p:=cN hw.1;simp only[aac]at E B;have I:(if bM U=14/\cP O (aD U 0)=true then dX (aD U 1::s)else aM 5)=(r,0):=A;split at I;rotate_left
 ·cases I
 rename_i c1;obtain⟨T,ts⟩:=U;obtain⟨V,c2⟩:=c1;simp only[bM]at V;subst V;obtain⟨t,Q,rfl,Mw,R9⟩:=eD (cG p.1) cc;cases I;have et:O=t:=(fS _ _).1 c2;subst et;obtain⟨W,rfl,H,R6,Zm,X7⟩:=Tj p.2.1 p.2.2;have hmc:=kW H;have e:aH 67 [] ⟨a,b,c,d,v :: .mk 14 0 0 [] [] [O,Q] W::q,fr,g,u,m,G⟩=(0,{dG ⟨a,b,c,d,q,fr,g,u,m,G⟩ W 2 q.reverse with st:=[v]}):=by unfold aH;rw[MJ];rfl
 unfold bf;rw[e]
 refine⟨ff _ _ 2 P 67 N _ [_,_] q _ cc (by rw[MJ];rfl) (by show List.length (v::Vl.mk 14 0 0 [] [] [O,Q] W::q)<=_;simp only[aac];omega) (FL ⟨a,b,c,d,q,fr,g,u,m,G⟩ P N v 14 0 [] [O,Q] W 0 [] c9 K),
  .inr (.inl ⟨Z,⟨W,0,2,q.reverse⟩,[O],Z,H,⟨D,trivial⟩,λh=>?_⟩)⟩
 refine⟨by show List.length [O]+cF W<=340;simp only[aac,aad];omega,H,aaF _,_,_,zb R6,λhf => .inr (.inr (.inl ⟨Z,by show q.reverse.length<=340;rw[aaC];omega,Q,s,Zm hf,by show dH s q.reverse.reverse;rw[abw];exact hq,h Z⟩))⟩
def Gn(C:L Ty×Bool)(S:b9)(T:Int)(U:L UInt8)(J:L Nd)(K:iH J)(W s:L Ty)(r:L Ty×Bool)(hf:bJ 66 J=some W)(Q:dH s S.st)(hl:s.length+cF J<=339)(O:S.fr.length<=1099511627776)(p:r.1.all br=true)(A:cD 66 J (aX J) W s=(r,0)):bf T U 66 J S/\Comes C S r (aH 66 J S):=by
 obtain⟨a,b,c,d,q,H,g,u,m,G⟩:=S;have E:=wu K;obtain⟨x,y,N,q1,M,Y,rfl,hx,hy,rfl⟩:=Rk hf cc;obtain⟨g1,gz⟩:=nZ K (show Nd.mk 3 N q1 M Y∈_ from aaM _ (aaM _ (abB ..)));have D:=bF Q;simp only at Q D;have P:(if iT Y=true then aM 5 else if(cR (cy Y ([(aW x).1],false)) (dX [(aW y).1])).2≠0 then aM (cR (cy Y ([(aW x).1],false)) (dX [(aW y).1])).2 else dX (.mk 14 [(aW x).1,(aW y).1]::s))=(r,0):=by
  obtain⟨kx,nx,px,sx,ax⟩:=x;obtain⟨ky,ny,py,sy,ay⟩:=y;exact A
 split at P
 ·cases P
 rename_i cm;split at P
 ·rename_i V;exact absurd (Zb Prod.snd P) V
 rename_i V;simp only[ne_eq,aaK]at V;cases P;obtain⟨B,I⟩:=rY (a:=cy Y ([(aW x).1],false)) (b:=dX [(aW y).1]) (r:=(cR (cy Y ([(aW x).1],false)) (dX [(aW y).1])).1) (by rw[<- V]);obtain⟨m3,m4⟩:=rZ (a:=cy Y ([(aW x).1],false)) (b:=dX [(aW y).1]) (r:=(cR (cy Y ([(aW x).1],false)) (dX [(aW y).1])).1) (by rw[<- V]);have hr:=m4 Z;rw[hr]at I;simp only[aS,bZ]at E;have s1:=Cf x bn;have s2:=Cf y bn;have sx:bw (aW x).1<=1000000:=by
  rcases tM x with ⟨t,h1,_,_,h4⟩|h1
  ·grind
  ·rw[h1];decide
 have sy:bw (aW y).1<=1000000:=by
  rcases tM y with ⟨t,h1,_,_,h4⟩|h1
  ·grind
  ·rw[h1];decide
 have gx:br (aW x).1=true:=og (bz p) _ ek;have e:aH 66 [x,y,.mk 3 N q1 M Y] ⟨a,b,c,d,q,H,g,u,m,G⟩=bp ⟨a,b,c,d,q,H,g,u,m,G⟩ [.mk 14 0 0 [] [] [(aW x).1,(aW y).1] Y]:=by unfold aH;rw[MI];rfl
 have hv:bE (.mk 14 0 0 [] [] [(aW x).1,(aW y).1] Y) (.mk 14 [(aW x).1,(aW y).1])=true/\eC (.mk 14 0 0 [] [] [(aW x).1,(aW y).1] Y)=true:=by
  constructor
  ·unfold bE;simp[cq,bM,aD,aq,(fS _ _).2 rfl]
  ·rw[Bu 14 0 0 [] [] _ _ Y rfl];rw[L4 g1 Z,if_neg ek,if_pos (by simp[gx])];simp only[cJ,aal,aaz,Z5,acr];refine⟨⟨by first|exact B|exact aaw B,?_⟩,by simpa using cm⟩;cases hb:(cy Y ([(aW x).1],false)).1.2 with
   |true=>exact .inl Z
   |false =>
    right;rw[<- I hb];exact(nA _ _).2 Z
 unfold bf;rw[e]
 exact⟨ff _ _ 2 T 66 U _ [] q _ cc (by rw[MI];rfl) c9 (Ch ⟨a,b,c,d,q,H,g,u,m,G⟩ T U x y N q1 M Y bn bn (by simp only[aO,aK,bg,aad];omega) c9 O),
  .inl (bX (S:=⟨a,b,c,d,q,H,g,u,m,G⟩) (eW (bz p) hv) Q)⟩
def KP(C:L Ty×Bool)(P:Int)(S:b9)(hE:mJ S.self S.gv S.gw S.balance=true)(hm:0<=S.bG/\S.bG<=bL)(G:Int)(W:L UInt8)(J:L Nd)(U:iH J)(Y s:L Ty)(r:L Ty×Bool)(hf:bJ P J=some Y)(V:dH s S.st)(B:s.length+cF J<=339)(Q:S.fr.length<=1099511627776)(N:r.1.all br=true)(A:mz P J (aX J) Y s=(r,0)):bf G W P J S/\Comes C S r (aH P J S):=by
 have K:aS J<=8589934593:=aaG (wu U) bn;have T:s.length<=340:=by omega
 have hP:¬P<40:=by
  intro h;unfold bJ at hf;rw[if_pos (.inl h)]at hf;cases hf
 have st:∀{p q:Prop},bf G W P J S/\bK S r (aH P J S)->bf G W P J S/\Comes C S r (aH P J S):=λh=>⟨h.1,.inl h.2⟩
 unfold mz at A;by_cases M:P<=44
 ·rw[if_pos M]at A;exact st (p:=True) (q:=True) (Lq P bn S G W J Y s r hf V T A)
 rw[if_neg M]at A;by_cases I:P=45
 ·rw[if_pos I]at A;subst I;exact st (p:=True) (q:=True) (Lr S G W J K Y s r hf V T N A)
 rw[if_neg I]at A;by_cases H:P<=58
 ·rw[if_pos H]at A;by_cases O:P=52
  ·subst O;exact Gk C S G W J U Y s r hf V B Q A
  by_cases d2:P=55
  ·subst d2;exact Gl C S G W J U Y s r hf V B Q A
  by_cases d3:P=58
  ·subst d3;exact Gm C S G W J U Y s r hf V B Q A
  exact st (p:=True) (q:=True) (DK P bn S G W J K (aX J) Y s r hf V T N A)
 rw[if_neg H]at A;by_cases c4:P<=63
 ·rw[if_pos c4]at A;by_cases O:P=60
  ·subst O;exact Ln C S G W J U Y s r hf V B Q A
  exact st (p:=True) (q:=True) (I6 P bn S G W J K (aX J) Y s r hf V T N A)
 rw[if_neg c4]at A;by_cases E:P<=68
 ·rw[if_pos E]at A;rcases(show P=64\/P=65\/P=66\/P=67\/P=68 by omega)with rfl|rfl|rfl|rfl|rfl
  ·exact Rn C S G W J U Y s r hf V B Q A
  ·exact Lo C S G W J U Y s r hf V B Q A
  ·exact Gn C S G W J U Y s r hf V B Q N A
  ·exact Lp C S G W J Y s r hf V B Q A
  ·exact Om C S G W J U Y s r hf V B Q A
 rw[if_neg E]at A;by_cases D:P<=72\/P>=93
 ·rw[if_pos D]at A;have:P<=95:=by
   apply abf;intro h;unfold bN at A;rw[if_neg bn,if_neg bn,if_neg bn,if_pos bn]at A;cases A
  exact st (p:=True) (q:=True) (DJ P bn S G W J K (aX J) Y s r hf V T N A)
 rw[if_neg D]at A;by_cases u:P<=83
 ·rw[if_pos u]at A;by_cases O:P=83
  ·subst O;have h:=Ls S G W J Y s r hf V T A;exact⟨h.1,.inr (.inr h.2)⟩
  exact st (p:=True) (q:=True) (Le P bn S G W J K (aX J) Y s r hf V T N A)
 rw[if_neg u]at A;exact st (p:=True) (q:=True) (I5 P bn S hE hm G W J K (aX J) Y s r hf V T N A)
def Ae(S S':b9):Prop:=S'.self=S.self/\S'.gv=S.gv/\S'.gw=S.gw/\S'.balance=S.balance/\S'.oC=S.oC/\S'.used=S.used
def Lt(S:b9)(l:L Vl):Ae S (bp S l).2/\(bp S l).2.bG=S.bG:=⟨⟨Z,Z,Z,Z,Z,Z⟩,Z⟩
def CI{c:Prop}[Decidable c]{Q:MR->Prop}{a b:MR}(h1:Q a)(h2:Q b):Q (if c then a else b):=by grind
def KM(S:b9)(o:MR):Prop:=Ae S o.2/\o.2.bG=S.bG
def tZ(S:b9)(l:L Vl):KM S (bp S l):=Lt S l
def ua(S S':b9)(e:Int)(h:Ae S S'/\S'.bG=S.bG):KM S (e,S'):=h
def Rp(P:Int)(J:L Nd)(l:L Vl)(S:b9):KM S (PW P J l S):=by
 unfold PW
 repeat' (first|exact tZ _ _|exact ua _ _ _ ⟨⟨Z,Z,Z,Z,Z,Z⟩,Z⟩|refine CI ?_ ?_)
def On(P:Int)(J:L Nd)(l:L Vl)(S:b9):KM S (Kc P J l S):=by
 unfold Kc
 repeat' (first|exact tZ _ _|exact ua _ _ _ ⟨⟨Z,Z,Z,Z,Z,Z⟩,Z⟩|refine CI ?_ ?_)
def Ja(P:Int)(J:L Nd)(l:L Vl)(S:b9):KM S (By P J l S):=by
 unfold By;have h1:∀(c:L Nd)(f:Int)(a:L Vl)(q:L Vl),KM S (bp (dG S c f a) q):=λc f a q=>⟨⟨Z,Z,Z,Z,Z,Z⟩,Z⟩
 cases fh (lV l 0)<;>dsimp only <;>
 repeat' (first|exact h1 _ _ _ _|exact tZ _ _|exact ua _ _ _ ⟨⟨Z,Z,Z,Z,Z,Z⟩,Z⟩|refine CI ?_ ?_)
def Oo(P:Int)(J:L Nd)(l:L Vl)(S:b9):KM S (Kd P J l S):=by
 unfold Kd;cases fh (lV l 1)<;>dsimp only <;>
 repeat' (first|exact tZ _ _|exact ua _ _ _ ⟨⟨Z,Z,Z,Z,Z,Z⟩,Z⟩|refine CI ?_ ?_)
def Lu(P:Int)(l:L Vl)(S:b9):KM S (Fo P l S):=by
 unfold Fo;dsimp only
 repeat' (first|exact tZ _ _|exact ua _ _ _ ⟨⟨Z,Z,Z,Z,Z,Z⟩,Z⟩|refine CI ?_ ?_)
def Rq(P:Int)(J:L Nd)(l:L Vl)(S:b9):KM S (PX P J l S):=by
 unfold PX;dsimp only
 repeat' (first|exact tZ _ _|exact ua _ _ _ ⟨⟨Z,Z,Z,Z,Z,Z⟩,Z⟩|refine CI ?_ ?_)
def Oq(P:Int)(J:L Nd)(l:L Vl)(S:b9):Ae S (Bz P J l S).2/\((Bz P J l S).2.bG=S.bG\/P=84/\S.bG<=bL-vN (lV l 1)/\(Bz P J l S).2.bG=S.bG+vN (lV l 1)):=by
 have p:∀{o:MR},KM S o->Ae S o.2/\(o.2.bG=S.bG\/P=84/\S.bG<=bL-vN (lV l 1)/\o.2.bG=S.bG+vN (lV l 1)):=λh=>⟨h.1,.inl h.2⟩
 unfold Bz;dsimp only;by_cases c:P=84
 ·subst c;rw[if_neg cc,if_neg cc,if_neg cc,if_neg cc,if_pos rfl];by_cases Y:vN (lV l 1)=0
  ·rw[if_pos Y];exact p (tZ _ _)
  rw[if_neg Y];by_cases C:S.bG>bL-vN (lV l 1)
  ·rw[if_pos C];exact p (ua _ _ _ ⟨⟨Z,Z,Z,Z,Z,Z⟩,Z⟩)
  rw[if_neg C];exact⟨⟨Z,Z,Z,Z,Z,Z⟩,.inr ⟨Z,bn,Z⟩⟩
 ·rw[if_neg (c:=P=84) c];refine p ?_
  repeat' (first|exact tZ _ _|exact ua _ _ _ ⟨⟨Z,Z,Z,Z,Z,Z⟩,Z⟩|refine CI ?_ ?_)
def Ot(P:Int)(J:L Nd)(l:L Vl)(S:b9):Ae S (BA P J l S).2/\((BA P J l S).2.bG=S.bG\/P=84/\S.bG<=bL-vN (lV l 1)/\(BA P J l S).2.bG=S.bG+vN (lV l 1)):=by
 have p:∀{o:MR},KM S o->Ae S o.2/\(o.2.bG=S.bG\/P=84/\S.bG<=bL-vN (lV l 1)/\o.2.bG=S.bG+vN (lV l 1)):=λh=>⟨h.1,.inl h.2⟩
 unfold BA;by_cases Y:P<=44
 ·rw[if_pos Y];exact p (Rp ..)
 rw[if_neg Y];by_cases C:P<=56/\P≠52/\P≠55
 ·rw[if_pos C];exact p (On ..)
 rw[if_neg C];by_cases K:P=52\/P=55\/P=58\/P=60\/64<=P/\P<=68
 ·rw[if_pos K];exact p (Ja ..)
 rw[if_neg K];by_cases c4:P<=63
 ·rw[if_pos c4];exact p (Oo ..)
 rw[if_neg c4];by_cases A:P<=72\/P>=93
 ·rw[if_pos A];exact p (Lu ..)
 rw[if_neg A];by_cases W:P<=83
 ·rw[if_pos W];exact p (Rq ..)
 rw[if_neg W];exact Oq ..
def QY(P:Int)(J:L Nd)(S:b9)(Y s:L Ty)(r:L Ty×Bool)(V:0<=S.bG/\S.bG<=bL)(U:dH s S.st)(hf:bJ P J=some Y)(A:mz P J (aX J) Y s=(r,0)):Ae S (aH P J S).2/\0<=(aH P J S).2.bG/\(aH P J S).2.bG<=bL/\S.bG<=(aH P J S).2.bG:=by
 unfold aH;cases I:kJ (bW P) S.st with
 |none=>exact⟨⟨Z,Z,Z,Z,Z,Z⟩,V.1,V.2,acP _⟩
 |some Q =>
  obtain⟨l,q⟩:=Q;obtain⟨h1,h2⟩:=Ot P J l {S with st:=q};refine⟨h1,?_⟩;simp only at h2 ⊢;rcases h2 with h2|⟨rfl,h2,K⟩
  ·omega
  ·rw[K];have E:0<=vN (lV l 1):=by
    rw[F1]at I;have W:bU 84 Y s=(r,0):=A;rcases s with _|⟨O,_|⟨u,s⟩⟩
    ·cases W
    ·cases W
    obtain⟨v,q0,C,hv,N⟩:=bh U;obtain⟨w,q1,rfl,M,hq⟩:=bh N;rw[C]at I;have H:l=[v,w]:=by
     have G:some ([v,w],q1)=some (l,q):=I;cases G;rfl
    subst H;have D:(if bM u=4/\fq O=true then dX (.mk 9 [.mk 15 [O]]::s)else aM 5)=(r,0):=W;split at D
    ·rename_i c4;have p:=cN M.1;obtain⟨T,ts⟩:=u;have:T=4:=c4.1;subst this;obtain⟨n,rfl,E⟩:=fy (.inr (.inr (.inl rfl))) p.2.1;have B:=(K2 E).2.2.1 Z;show 0<=n;exact B.1
    ·cases D
   omega
def nQ(S:b9)(F:gU)(t:List gU):MR :=
 if F.fin=1 then(0,{S with st:=F.aside.reverse++S.st,fr:=t})
 else if F.fin=2 then(match S.st with
  |[]=>(14,S)
  |v::_=>(0,{S with st:=v::F.aside.reverse,fr:=t}))
 else if F.fin=3 then(match F.aside with
  |[]=>(0,{S with fr:=t})
  |x::q=>if S.oC<=S.used then(12,S)else(0,{S with st:=x::S.st,fr:=⟨F.code,0,3,q⟩::t,used:=S.used+1}))
 else if F.fin=4 then(match S.st with
  |[]=>(14,S)
  |v::q=>if vN v=1 then(if S.oC<=S.used then(12,{S with st:=q})else(0,{S with st:=q,fr:=⟨F.code,0,4,F.aside⟩::t,used:=S.used+1}))else(0,{S with st:=q,fr:=t}))
 else(0,{S with fr:=t})
def oX:Nat->b9->MR
 |0,S=>(12,S)
 |k+1,S=>match S.fr with
  |[]=>(0,S)
  |F::t=>if F.pos=F.code.length then(if(nQ S F t).1=0 then oX k (nQ S F t).2 else nQ S F t)
   else match F.code[F.pos]? with
    |none=>(14,S)
    |some (.mk Y N P s J) =>
     if Y=3 then oX k (dG (iP S F t) J 0 [])
     else if Y≠2 then(14,iP S F t)
     else if S.oC<=S.used then(12,iP S F t)
     else if(aH P J {iP S F t with used:=S.used+1}).1=0 then oX k (aH P J {iP S F t with used:=S.used+1}).2 else aH P J {iP S F t with used:=S.used+1}
structure MT(pr:List Ty×Bool)(S:b9)(s:List Ty):Prop where
 fit:dH s S.st
 ft:FT pr S.fr s
 env:mJ S.self S.gv S.gw S.balance=true
 Xy:0<=S.bG/\S.bG<=bL
 used:0<=S.used/\S.used<=S.oC
 oC:S.oC<=1000000
def left(S:b9):Nat:=(S.oC-S.used).toNat*900+wq S.fr
def Ck(S S':b9):Prop:=S'.self=S.self/\S'.gv=S.gv/\S'.gw=S.gw/\S'.balance=S.balance/\S'.oC=S.oC
def QX(C:L Ty×Bool)(S:b9)(o:MR):Prop :=
 Ck S o.2/\(0<=o.2.used/\o.2.used<=o.2.oC)/\(0<=o.2.bG/\o.2.bG<=bL) /\
 ((o.1=0/\∃U,MT C o.2 U/\left o.2<left S)\/o.1=11\/o.1=13\/(o.1=12/\o.2.used=o.2.oC)\/(o.1=10/\vK o.2.said≠0/\aO o.2.said<=25000000))
def Im{l:L Nd}{i:Nat}{x:Nd}(h:l[i]?=some x):cF (l.drop i)=many x+cF (l.drop (i+1)):=by
 have e:l.drop i=x::l.drop (i+1):=by
  obtain⟨h1,h2⟩:=List.getElem?_eq_some_iff.1 h;rw[aby h1,h2]
 rw[e];rfl
def QZ(l:L Nd)(i:Nat):cF (l.drop i)<=cF l:=by
 induction i generalizing l with
 |zero=>exact aav _
 |succ i O=>cases l with
  |nil=>exact aav _
  |cons x l=>have:=O l;simp only[acm,cF];omega
def wD{c:Prop}[Decidable c]{Q:MR->Prop}{a b:MR}(h1:c->Q a)(h2:¬c->Q b):Q (if c then a else b):=by grind
def FR(S:b9)(F:gU)(t:List gU)(h:S.fr=F::t)(hf:F.fin=0\/F.fin=1\/F.fin=2\/F.fin=3\/F.fin=4)(U:S.st.length<=500000000)(Q:F.fin=1\/F.fin=2->F.aside.length<=500000000)(B:t.length<=1099511627776)(K:Mh S.oC)(H:0<=S.used) :
  gR 106 S [.ptr 1000002 (0+t.length*4)] (nQ S F t):=by
 obtain⟨a,b,c,d,T,D,g,u,m,G⟩:=S;obtain⟨W,Y,fin,p⟩:=F;simp only at h hf U Q K H;subst h;rcases hf with rfl|rfl|rfl|rfl|rfl
 ·exact xG ⟨a,b,c,d,T,⟨W,Y,0,p⟩::t,g,u,m,G⟩ ⟨W,Y,0,p⟩ t Z Z B
 ·exact Lv a b c d T g u m G W Y p t U (Q (.inl Z)) B
 ·cases T with
  |nil=>exact Gp a b c d [] g u m G W Y p t B
  |cons v T =>
   simp only[aac]at U;cases p with
   |nil=>exact Gq a b c d v T g u m G W Y t bn B
   |cons x q=>exact Gr a b c d v T g u m G W Y x q t bn (by have:=Q (.inr Z);simp only[aac]at this;omega) B
 ·cases p with
  |nil=>exact Gs a b c d T g u m G W Y t B
  |cons x q =>
   show gR _ _ _ (if g<=u then _ else _:MR);by_cases N:g<=u
   ·rw[if_pos N];exact Gt a b c d T g u m G W Y x q t N B
   ·rw[if_neg N];exact Gu a b c d T g u m G W Y x q t bn K H U B
 ·cases T with
  |nil=>exact Gv a b c d [] g u m G W Y p t ek B
  |cons v T =>
   obtain⟨C,I,P,O,V,M,J⟩:=v;simp only[aac]at U;show gR _ _ _ (if I=1 then(if g<=u then _ else _)else _:MR);by_cases E:I=1
   ·subst E;rw[if_pos rfl];by_cases N:g<=u
    ·rw[if_pos N];exact Gw a b c d C P O V M J T g u m G W Y p t N bn B
    ·rw[if_neg N];exact Gx a b c d C P O V M J T g u m G W Y p t bn K H bn B
   ·rw[if_neg E];exact Gy a b c d C I P O V M J E T g u m G W Y p t bn B
def FQ{I:L Ty×Bool}{S:b9}{s:L Ty}{F:gU}{t:List gU}(hT:MT I S s)(h:S.fr=F::t)(hp:F.pos=F.code.length):(F.fin=0\/F.fin=1\/F.fin=2\/F.fin=3\/F.fin=4)/\(F.fin=1\/F.fin=2->F.aside.length<=500000000)/\QX I S (nQ S F t):=by
 obtain⟨Y,GS,Q,V,U,P⟩:=hT;obtain⟨a,b,c,d,T,fr,g,u,m,G⟩:=S;obtain⟨W,pos,fin,p⟩:=F;simp only at *;subst h;subst hp;obtain⟨f1,H,f3,s',f',N,f5⟩:=GS;simp only at f1 H f3 N f5;have e4:(s,false)=(s',f'):=by
  unfold zZ at N;rw[xS]at N;simp only[cy,aaW,abM]at N;rw[aaW];exact N
 simp only[aaW]at e4;obtain⟨rfl,rfl⟩:=e4;have g0:=kW H;have O:wq (⟨W,W.length,fin,p⟩::t)=1+wq t:=by
  simp only[wq,S7,xS,cF]
 have hz:cF (W.drop 0)=cF W:=rfl;rcases f5 rfl with ⟨rfl,k⟩|⟨rfl,k0,w,C,k⟩|⟨rfl,k0,t0,w,C,A,k⟩|⟨rfl,e,C,A,⟨M,K,J,D⟩,k⟩|⟨rfl,a0,E,C,A,J,⟨M,K,D,k5⟩,k⟩
 ·refine⟨.inl rfl,(λh=>by rcases h with h|h<;>cases h),⟨rfl,rfl,rfl,rfl,rfl⟩,U,V,.inl ⟨rfl,s,⟨Y,k,Q,V,U,P⟩,?_⟩⟩;show left ⟨a,b,c,d,T,t,g,u,m,G⟩<left ⟨a,b,c,d,T,⟨W,W.length,0,p⟩::t,g,u,m,G⟩;simp only[left,O];omega
 ·refine⟨.inr (.inl Z),λ_=>by omega,⟨Z,Z,Z,Z,Z⟩,U,V,.inl ⟨Z,w++s,⟨xT C Y,k,Q,V,U,P⟩,?_⟩⟩;show left ⟨a,b,c,d,p.reverse++T,t,g,u,m,G⟩<left ⟨a,b,c,d,T,⟨W,W.length,1,p⟩::t,g,u,m,G⟩;simp only[left,O];omega
 ·refine⟨.inr (.inr (.inl Z)),λ_=>by omega,?_⟩;subst C;obtain⟨v,q,rfl,hv,hq⟩:=bh Y;refine⟨⟨Z,Z,Z,Z,Z⟩,U,V,.inl ⟨Z,t0::w,⟨⟨hv,A⟩,k,Q,V,U,P⟩,?_⟩⟩;show left ⟨a,b,c,d,v::p.reverse,t,g,u,m,G⟩<left ⟨a,b,c,d,v::q,⟨W,W.length,2,p⟩::t,g,u,m,G⟩;simp only[left,O];omega
 ·refine⟨.inr (.inr (.inr (.inl rfl))),(λh=>by rcases h with h|h<;>cases h),?_⟩;cases p with
  |nil =>
   refine⟨⟨Z,Z,Z,Z,Z⟩,U,V,.inl ⟨Z,s,⟨Y,k,Q,V,U,P⟩,?_⟩⟩;show left ⟨a,b,c,d,T,t,g,u,m,G⟩<left ⟨a,b,c,d,T,⟨W,W.length,3,[]⟩::t,g,u,m,G⟩;simp only[left,O];omega
  |cons x q =>
   show QX I _ (if g<=u then _ else _:MR);refine wD (λB=>?_) (λB=>?_)
   ·exact⟨⟨Z,Z,Z,Z,Z⟩,U,V,.inr (.inr (.inr (.inl ⟨Z,by show u=g;omega⟩)))⟩
   ·refine⟨⟨Z,Z,Z,Z,Z⟩,⟨Xh,Xs⟩,V,.inl ⟨Z,e::s,⟨⟨C x ek,Y⟩,?_,Q,V,⟨Xh,Xs⟩,P⟩,?_⟩⟩
    ·refine⟨by show s.length+1+cF W<=340;exact A,H,aaF _,M,K,J,λhf=>?_⟩;have e3:=D hf;rw[e3];refine .inr (.inr (.inr (.inl ⟨Z,e,λy hy=>C y (by simp[hy]),A,⟨M,K,J,D⟩,k⟩)))
    ·show left ⟨a,b,c,d,x::T,⟨W,0,3,q⟩::t,g,u+1,m,G⟩<left ⟨a,b,c,d,T,⟨W,W.length,3,x::q⟩::t,g,u,m,G⟩;simp only[left,O];simp only[wq,S7,abx];omega
 ·refine⟨.inr (.inr (.inr (.inr rfl))),(λh=>by rcases h with h|h<;>cases h),?_⟩;subst C;obtain⟨v,q,rfl,hv,hq⟩:=bh Y;show QX I _ (if vN v=1 then(if g<=u then _ else _)else _:MR);refine wD (λhn=>wD (λB=>?_) (λB=>?_)) (λhn=>?_)
  ·exact⟨⟨Z,Z,Z,Z,Z⟩,U,V,.inr (.inr (.inr (.inl ⟨Z,by show u=g;omega⟩)))⟩
  ·refine⟨⟨Z,Z,Z,Z,Z⟩,⟨Xh,Xs⟩,V,.inl ⟨Z,E,⟨hq,?_,Q,V,⟨Xh,Xs⟩,P⟩,?_⟩⟩
   ·refine⟨J,H,aaF _,M,K,D,λhf => .inr (.inr (.inr (.inr ⟨Z,a0,E,k5 hf,A,J,⟨M,K,D,k5⟩,k⟩)))⟩
   ·show left ⟨a,b,c,d,q,⟨W,0,4,p⟩::t,g,u+1,m,G⟩<left ⟨a,b,c,d,v::q,⟨W,W.length,4,p⟩::t,g,u,m,G⟩;simp only[left,O];simp only[wq,S7,abx];omega
  ·refine⟨⟨Z,Z,Z,Z,Z⟩,U,V,.inl ⟨Z,E,⟨hq,k,Q,V,U,P⟩,?_⟩⟩;show left ⟨a,b,c,d,q,t,g,u,m,G⟩<left ⟨a,b,c,d,v::q,⟨W,W.length,4,p⟩::t,g,u,m,G⟩;simp only[left,O];omega
end Go.Proofs
