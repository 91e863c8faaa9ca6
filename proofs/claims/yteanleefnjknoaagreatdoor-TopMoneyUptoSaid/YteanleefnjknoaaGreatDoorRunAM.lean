/- Package run: -/
import Derived.Test.YteanleefnjknoaaGreatDoorRunAJ
import Derived.Test.YteanleefnjknoaaGreatDoorRunH
set_option linter.defProp false
set_option linter.unusedVariables false
set_option linter.unusedSimpArgs false
namespace Go.Proofs
open Go.cK
def ue{I:L Ty×Bool}{S:ct}{c:L Nd}{l:L Vl}{T:L Ty}{r:L Ty×Bool}(Q:(cE c (T,false)).2=0)(Y:(cE c (T,false)).1.2=false->r=(cE c (T,false)).1)(E:T.length+cV c<=340)(C:jW c)
  (B:ep T (l.reverse++S.st)):Comes I S r (bq (dX S c 0 []) l):=by
 rcases Ed l S.st with h1|⟨h1,h2,V⟩
 ·exact .inl (.inr (.inr h1))
 ·refine .inr (.inl ⟨h1,⟨c,0,0,[]⟩,T,Z,C,?_,λh=>Jq Q Y E C h⟩);show ep _ (nI l S.st).2;rw[h2];exact B
def zZ{I:L Ty×Bool}{S:ct}{c:L Nd}{T:L Ty}{r:L Ty×Bool}(Q:(cE c (T,false)).2=0)(Y:(cE c (T,false)).1.2=false->r=(cE c (T,false)).1)(E:T.length+cV c<=340)(C:jW c)
  (B:ep T S.st):Comes I S r (0,dX S c 0 []) :=
 .inr (.inl ⟨Z,⟨c,0,0,[]⟩,T,Z,C,B,λh=>Jq Q Y E C h⟩)
def Sf{Y q1:Int}{W:L UInt8}{u:L Nd}{D V:Int}{J:L UInt8}{H:L Nd}(h:jW [.mk 3 Y q1 W u,.mk 3 D V J H]):jW u/\jW H/\cV [.mk 3 Y q1 W u,.mk 3 D V J H]=cV u+cV H+2 :=
 ⟨(qk h (agj ..)).1,(qk h (aeM _ (agj ..))).1,by simp only[cV,many];try omega⟩
def Xf{Y q1:Int}{W:L UInt8}{u:L Nd}(h:jW [.mk 3 Y q1 W u]):jW u/\cV [.mk 3 Y q1 W u]=cV u+1 :=
 ⟨(qk h (agj ..)).1,by simp only[cV,many];try omega⟩
def KG(pr:L Ty×Bool)(S:ct)(V:Int)(A:L UInt8)(J:L Nd)(yZ:jW J)(B s:L Ty)(r:L Ty×Bool)(hf:bW 52 J=some B)(C:ep s S.st)(hl:s.length+cV J<=339)(Q:S.fr.length<=1099511627776)(hc:aX 52 (bf J) B s=(r,0)):bh V A 52 J S/\Comes pr S r (aJ 52 J S):=by
 obtain⟨a,b,c,d,st,H,g,u,m,U⟩:=S;obtain⟨M,q1,K,Y,D,I,G,W,rfl,rfl⟩:=D8 hf bT;obtain⟨g1,g2,gz⟩:=Sf yZ;rw[gz]at hl;have fj:=bP C;simp only at C fj;cases s with
 |nil=>cases hc
 |cons t s =>
 obtain⟨v,q,rfl,p,hq⟩:=bl C;have P:=cW p.1;simp only[aac]at fj hl;have E:(if bS t=12 then di (cE Y (aE t 0::s,false)) (cE W (aE t 1::s,false))else aR 5)=(r,0):=hc;split at E;rotate_left
 ·cases E
 rename_i OK;obtain⟨T,ts⟩:=t;simp only[bS]at OK;subst OK;obtain⟨t1,t2,rfl,R1,X0⟩:=fz (cH P.1) bT;obtain⟨x,O,N⟩:=abT P.2.1 P.2.2;obtain⟨m1,m2⟩:=vi E;obtain⟨m3,m4⟩:=vj E;unfold bh;rcases O with ⟨rfl,O⟩|⟨rfl,O⟩
 ·have hz:=p.2;simp only[aM,aO,bz,aU,aad]at hz;have e:aJ 52 [.mk 3 M q1 K Y,.mk 3 D I G W] ⟨a,b,c,d,.mk 12 0 0 [] [x] [] []::q,H,g,u,m,U⟩=bq (dX ⟨a,b,c,d,q,H,g,u,m,U⟩ Y 0 []) [x]:=by unfold aJ;rw[D9];rfl
  rw[e]
  exact⟨fX _ _ 2 V 52 A _ [_] q _ bT (by rw[D9];rfl) (by show List.length (Vl.mk 12 0 0 [] [x] [] []::q)<=_;simp only[aac];omega) (Hi ⟨a,b,c,d,q,H,g,u,m,U⟩ V A M q1 K Y D I G W 12 0 [] [] [] x bn cc Q),
   ue (S:=⟨a,b,c,d,q,H,g,u,m,U⟩) m1 m2 dG g1 ⟨⟨fU (qy P.1 _ (by simp[aE,au])) ⟨O,N⟩,bn⟩,hq⟩⟩
 ·have hz:=p.2;simp only[aM,aO,bz,aU,aad]at hz;have e:aJ 52 [.mk 3 M q1 K Y,.mk 3 D I G W] ⟨a,b,c,d,.mk 12 1 0 [] [x] [] []::q,H,g,u,m,U⟩=bq (dX ⟨a,b,c,d,q,H,g,u,m,U⟩ W 0 []) [x]:=by unfold aJ;rw[D9];rfl
  rw[e]
  exact⟨fX _ _ 2 V 52 A _ [_] q _ bT (by rw[D9];rfl) (by show List.length (Vl.mk 12 1 0 [] [x] [] []::q)<=_;simp only[aac];omega) (Hj ⟨a,b,c,d,q,H,g,u,m,U⟩ V A M q1 K Y D I G W 12 0 [] [] [] x bn cc Q),
   ue (S:=⟨a,b,c,d,q,H,g,u,m,U⟩) m3 m4 dG g2 ⟨⟨fU (qy P.1 _ (by simp[aE,au])) ⟨O,N⟩,bn⟩,hq⟩⟩
def KH(pr:L Ty×Bool)(S:ct)(V:Int)(A:L UInt8)(J:L Nd)(yZ:jW J)(B s:L Ty)(r:L Ty×Bool)(hf:bW 55 J=some B)(G:ep s S.st)(C:s.length+cV J<=339)(Q:S.fr.length<=1099511627776)(p:aX 55 (bf J) B s=(r,0)):bh V A 55 J S/\Comes pr S r (aJ 55 J S):=by
 obtain⟨a,b,c,d,st,H,g,u,m,U⟩:=S;obtain⟨P,q1,O,Y,D,N,M,W,rfl,rfl⟩:=D8 hf bT;obtain⟨g1,g2,gz⟩:=Sf yZ;rw[gz]at C;have fj:=bP G;simp only at G fj;cases s with
 |nil=>cases p
 |cons t s =>
 obtain⟨v,q,rfl,hv,hq⟩:=bl G;have K:=cW hv.1;simp only[aac]at fj C;have I:(if bS t=9 then di (cE Y (s,false)) (cE W (aE t 0::s,false))else aR 5)=(r,0):=p;split at I;rotate_left
 ·cases I
 rename_i OK;obtain⟨T,ts⟩:=t;simp only[bS]at OK;subst OK;obtain⟨t1,rfl,R1⟩:=fJ (cH K.1) bT;obtain⟨m1,m2⟩:=vi I;obtain⟨m3,m4⟩:=vj I;unfold bh;rcases R9 K.2.1 K.2.2 with rfl|⟨x,rfl,hx,E⟩
 ·have e:aJ 55 [.mk 3 P q1 O Y,.mk 3 D N M W] ⟨a,b,c,d,cG []::q,H,g,u,m,U⟩=bq (dX ⟨a,b,c,d,q,H,g,u,m,U⟩ Y 0 []) []:=by unfold aJ;rw[Ea];rfl
  rw[e]
  exact⟨fX _ _ 2 V 55 A _ [_] q _ bT (by rw[Ea];rfl) (by show List.length (cG []::q)<=_;simp only[aac];omega) (Hl ⟨a,b,c,d,q,H,g,u,m,U⟩ V A P q1 O Y D N M W 9 0 [] [] [] 0 cc Q),
   ue (S:=⟨a,b,c,d,q,H,g,u,m,U⟩) m1 m2 bn g1 hq⟩
 ·have hz:=hv.2;simp only[cG,aM,aO,bz,aU,aad]at hz;have e:aJ 55 [.mk 3 P q1 O Y,.mk 3 D N M W] ⟨a,b,c,d,cG [x]::q,H,g,u,m,U⟩=bq (dX ⟨a,b,c,d,q,H,g,u,m,U⟩ W 0 []) [x]:=by unfold aJ;rw[Ea];rfl
  rw[e]
  exact⟨fX _ _ 2 V 55 A _ [_] q _ bT (by rw[Ea];rfl) (by show List.length (cG [x]::q)<=_;simp only[aac];omega) (Ho ⟨a,b,c,d,q,H,g,u,m,U⟩ V A P q1 O Y D N M W 9 0 [] [] [] 0 x bn cc Q),
   ue (S:=⟨a,b,c,d,q,H,g,u,m,U⟩) m3 m4 dG g2 ⟨⟨fU (qy K.1 _ (by simp[aE,au])) ⟨hx,E⟩,bn⟩,hq⟩⟩
def KI(pr:L Ty×Bool)(S:ct)(P:Int)(A:L UInt8)(J:L Nd)(yZ:jW J)(B s:L Ty)(r:L Ty×Bool)(hf:bW 58 J=some B)(C:ep s S.st)(p:s.length+cV J<=339)(O:S.fr.length<=1099511627776)(hc:aX 58 (bf J) B s=(r,0)):bh P A 58 J S/\Comes pr S r (aJ 58 J S):=by
 obtain⟨a,b,c,d,st,H,g,u,m,U⟩:=S;obtain⟨M,q1,K,V,D,I,G,Q,rfl,rfl⟩:=D8 hf bT;obtain⟨g1,g2,gz⟩:=Sf yZ;rw[gz]at p;have fj:=bP C;simp only at C fj;cases s with
 |nil=>cases hc
 |cons t s =>
 obtain⟨v,q,rfl,hv,hq⟩:=bl C;have N:=cW hv.1;simp only[aac]at fj p;have E:(if bS t=10 then di (cE V (aE t 0::t::s,false)) (cE Q (s,false))else aR 5)=(r,0):=hc;split at E;rotate_left
 ·cases E
 rename_i OK;obtain⟨T,ts⟩:=t;simp only[bS]at OK;subst OK;obtain⟨t1,rfl,R1⟩:=fJ (cH N.1) bT;obtain⟨m1,m2⟩:=vi E;obtain⟨m3,m4⟩:=vj E;unfold bh;obtain⟨l,rfl,Ag,Y,W⟩:=wI N.2.1 N.2.2;cases l with
 |nil =>
  have e:aJ 58 [.mk 3 M q1 K V,.mk 3 D I G Q] ⟨a,b,c,d,.mk 10 0 0 [] [] [] []::q,H,g,u,m,U⟩=(0,dX ⟨a,b,c,d,q,H,g,u,m,U⟩ Q 0 []):=by unfold aJ;rw[Eb];rfl
  rw[e]
  exact⟨fX _ _ 2 P 58 A _ [_] q _ bT (by rw[Eb];rfl) (by show List.length (Vl.mk 10 0 0 [] [] [] []::q)<=_;simp only[aac];omega) (Hp ⟨a,b,c,d,q,H,g,u,m,U⟩ P A M q1 K V D I G Q 10 0 [] [] [] 0 cc O),
   zZ (S:=⟨a,b,c,d,q,H,g,u,m,U⟩) m3 m4 bn g2 hq⟩
 |cons x xs =>
  have hz:=hv.2;simp only[aM,aO,bz,aU,aad]at hz;have e:aJ 58 [.mk 3 M q1 K V,.mk 3 D I G Q] ⟨a,b,c,d,.mk 10 0 0 [] (x::xs) [] []::q,H,g,u,m,U⟩=bq (dX ⟨a,b,c,d,q,H,g,u,m,U⟩ V 0 []) [.mk 10 0 0 [] xs [] [],x]:=by unfold aJ;rw[Eb];rfl
  rw[e];simp only[aS,aai]at Y;simp only[eg,aai]at W;simp only[aac]at Ag
  exact⟨fX _ _ 2 P 58 A _ [_] q _ bT (by rw[Eb];rfl) (by show List.length (Vl.mk 10 0 0 [] (x::xs) [] []::q)<=_;simp only[aac];omega) (Hq ⟨a,b,c,d,q,H,g,u,m,U⟩ P A M q1 K V D I G Q 10 0 [] [] [] 0 x xs bn (by simp only[aM,bz,aU,aad];omega) cc O),
   ue (S:=⟨a,b,c,d,q,H,g,u,m,U⟩) m1 m2 dG g1 ⟨⟨fU (qy N.1 _ (by simp[aE,au])) ⟨Y.1,W.1⟩,bn⟩,⟨fU N.1 (F9 bn Y.2 W.2),by simp only[aM,bz,aU,aad];omega⟩,hq⟩⟩
def Xg(pr:L Ty×Bool)(S:ct)(V:Int)(A:L UInt8)(J:L Nd)(yZ:jW J)(B s:L Ty)(r:L Ty×Bool)(hf:bW 64 J=some B)(G:ep s S.st)(E:s.length+cV J<=339)(Q:S.fr.length<=1099511627776)(I:cM 64 J (bf J) B s=(r,0)):bh V A 64 J S/\Comes pr S r (aJ 64 J S):=by
 obtain⟨a,b,c,d,st,H,g,u,m,U⟩:=S;obtain⟨P,q1,O,Y,D,N,M,W,rfl,rfl⟩:=D8 hf bT;obtain⟨g1,g2,gz⟩:=Sf yZ;rw[gz]at E;have C:=bP G;simp only at G C;cases s with
 |nil=>cases I
 |cons t s =>
 obtain⟨v,q,rfl,hv,hq⟩:=bl G;have f1:=cW hv.1;simp only[aac]at C E;have K:(if bS t=2 then di (cE Y (s,false)) (cE W (s,false))else aR 5)=(r,0):=I;split at K;rotate_left
 ·cases K
 rename_i p;obtain⟨T,ts⟩:=t;simp only[bS]at p;subst p;obtain⟨m1,m2⟩:=vi K;obtain⟨m3,m4⟩:=vj K;unfold bh;rcases Xh f1.2.1 with rfl|rfl
 ·have e:aJ 64 [.mk 3 P q1 O Y,.mk 3 D N M W] ⟨a,b,c,d,aQ 2 0::q,H,g,u,m,U⟩=(0,dX ⟨a,b,c,d,q,H,g,u,m,U⟩ W 0 []):=by unfold aJ;rw[Ec];rfl
  rw[e]
  exact⟨fX _ _ 2 V 64 A _ [_] q _ bT (by rw[Ec];rfl) (by show List.length (aQ 2 0::q)<=_;simp only[aac];omega) (No ⟨a,b,c,d,q,H,g,u,m,U⟩ V A P q1 O Y D N M W 2 0 [] [] [] [] cc Q),
   zZ (S:=⟨a,b,c,d,q,H,g,u,m,U⟩) m3 m4 bn g2 hq⟩
 ·have e:aJ 64 [.mk 3 P q1 O Y,.mk 3 D N M W] ⟨a,b,c,d,aQ 2 1::q,H,g,u,m,U⟩=(0,dX ⟨a,b,c,d,q,H,g,u,m,U⟩ Y 0 []):=by unfold aJ;rw[Ec];rfl
  rw[e]
  exact⟨fX _ _ 2 V 64 A _ [_] q _ bT (by rw[Ec];rfl) (by show List.length (aQ 2 1::q)<=_;simp only[aac];omega) (Np ⟨a,b,c,d,q,H,g,u,m,U⟩ V A P q1 O Y D N M W 2 0 [] [] [] [] cc Q),
   zZ (S:=⟨a,b,c,d,q,H,g,u,m,U⟩) m1 m2 bn g1 hq⟩
def Bg{α:Type}(l:List α):l.drop l.length=[]:=aex
def Qy(pr:L Ty×Bool)(S:ct)(Q:Int)(A:L UInt8)(J:L Nd)(yZ:jW J)(B s:L Ty)(r:L Ty×Bool)(hf:bW 60 J=some B)(G:ep s S.st)(E:s.length+cV J<=339)(M:S.fr.length<=1099511627776)(D:cT 60 (bf J) B s=(r,0)):bh Q A 60 J S/\Comes pr S r (aJ 60 J S):=by
 obtain⟨a,b,c,d,st,H,g,u,m,U⟩:=S;obtain⟨C,q1,r1,Y,rfl,rfl⟩:=JI hf bT;obtain⟨g1,gz⟩:=Xf yZ;rw[gz]at E;have fj:=bP G;simp only at G fj;cases s with
 |nil=>cases D
 |cons t s =>
 obtain⟨v,q,rfl,hv,hq⟩:=bl G;have P:=cW hv.1;simp only[aac]at fj E;have N:(if bS t=10\/bS t=13 then di (cE Y ((if bS t=13 then .mk 11 (au t)else aE t 0)::s,false)) (eT s)else aR 5)=(r,0):=D;split at N;rotate_left
 ·cases N
 rename_i OK;obtain⟨m1,m2⟩:=vi N;obtain⟨m3,m4⟩:=vj N;have hr:r=(s,false):=m4 Z;subst hr;have p:∃k xs e,v = .mk k 0 0 [] xs [] []/\(∀x∈xs,Fit e x)/\(if bS t=13 then .mk 11 (au t)else aE t 0)=e:=by
  obtain⟨T,ts⟩:=t;simp only[bS]at OK;have hz:=hv.2;rcases OK with rfl|rfl
  ·obtain⟨K,rfl,R1⟩:=fJ (cH P.1) bT;obtain⟨l,rfl,Ag,W,V⟩:=wI P.2.1 P.2.2;simp only[aM,bz,aU,aad]at hz;exact⟨10,l,K,Z,λx O=>⟨fU (qy P.1 _ cS) ⟨(fN _ l).1 W x O,Gf V O⟩,RR⟩,Z⟩
  ·obtain⟨K,t2,rfl,R1,X0⟩:=fz (cH P.1) bT;obtain⟨l,rfl,Ag,W,Zp,V⟩:=D7 P.2.1 P.2.2;simp only[aM,bz,aU,aad]at hz;exact⟨13,l,.mk 11 [K,t2],Z,λx O=>⟨fU (Qw P.1) ⟨(fN _ l).1 W x O,Gf V O⟩,RR⟩,Z⟩
 obtain⟨k,xs,e0,rfl,I,he⟩:=p;rw[he]at m1 m2;have e:aJ 60 [.mk 3 C q1 r1 Y] ⟨a,b,c,d,.mk k 0 0 [] xs [] []::q,H,g,u,m,U⟩=(0,uG ⟨a,b,c,d,q,H,g,u,m,U⟩ Y 3 xs):=by unfold aJ;rw[Sa];rfl
 unfold bh;rw[e]
 refine⟨fX _ _ 2 Q 60 A _ [_] q _ bT (by rw[Sa];rfl) (by show List.length (Vl.mk k 0 0 [] xs [] []::q)<=_;simp only[aac];omega) (Ki ⟨a,b,c,d,q,H,g,u,m,U⟩ Q A C q1 r1 Y k 0 [] [] [] 0 xs cc M),
  .inr (.inl ⟨Z,⟨Y,Y.length,3,xs⟩,s,Z,g1,hq,λh=>?_⟩)⟩
 refine⟨ab9,g1,aaj _,s,false,by show cE (Y.drop Y.length) (s,false)=_;rw[Bg];rfl,λ_ => .inr (.inr (.inr (.inl ⟨Z,e0,I,by show s.length+1+cV Y<=340;omega,⟨_,_,BB m1,λhf=>?_⟩,h Z⟩)))⟩;have:=m2 hf;rw[<- this]
def Qz(I:L Ty×Bool)(S:ct)(W:Int)(T:L UInt8)(J:L Nd)(M:jW J)(B s:L Ty)(r:L Ty×Bool)(hf:bW 65 J=some B)(G:ep s S.st)(E:s.length+cV J<=339)(V:S.fr.length<=1099511627776)(A:cM 65 J (bf J) B s=(r,0)):bh W T 65 J S/\Comes I S r (aJ 65 J S):=by
 obtain⟨a,b,c,d,st,fr,g,u,m,U⟩:=S;obtain⟨Q,q1,P,Y,rfl,rfl⟩:=JI hf bT;obtain⟨g1,K⟩:=Xf M;rw[K]at E;have H:=bP G;simp only at G H;cases s with
 |nil=>cases A
 |cons t s =>
 obtain⟨v,q,rfl,D,hq⟩:=bl G;simp only[aac]at H E;have N:(if bS t=2 then(if(di (cE Y (s,false)) (eT (t::s))).2≠0 then aR (di (cE Y (s,false)) (eT (t::s))).2 else eT s)else aR 5)=(r,0):=A;split at N;rotate_left
 ·cases N
 rename_i C;split at N
 ·rename_i O;exact absurd (aeb Prod.snd N) O
 rename_i O;simp only[ne_eq,aey]at O;cases N;obtain⟨m1,p⟩:=vi (a:=cE Y (s,false)) (b:=eT (t::s)) (r:=(di (cE Y (s,false)) (eT (t::s))).1) (by rw[<- O]);obtain⟨m3,m4⟩:=vj (a:=cE Y (s,false)) (b:=eT (t::s)) (r:=(di (cE Y (s,false)) (eT (t::s))).1) (by rw[<- O]);have hr:=m4 Z;rw[hr]at p;have e:aJ 65 [.mk 3 Q q1 P Y] ⟨a,b,c,d,v::q,fr,g,u,m,U⟩=(0,{uG ⟨a,b,c,d,q,fr,g,u,m,U⟩ Y 4 []with st:=v::q}):=by unfold aJ;rw[Sb];rfl
 unfold bh;rw[e]
 refine⟨fX _ _ 2 W 65 T _ [_] q _ bT (by rw[Sb];rfl) ot (Kj ⟨a,b,c,d,q,fr,g,u,m,U⟩ W T Q q1 P Y v cc V),
  .inr (.inl ⟨Z,⟨Y,Y.length,4,[]⟩,t::s,Z,g1,⟨D,hq⟩,λh=>?_⟩)⟩
 refine⟨by show(t::s).length+cV Y<=340;simp only[aac];omega,g1,aaj _,t::s,false,by show cE (Y.drop Y.length) (t::s,false)=_;rw[Bg];rfl,λ_ => .inr (.inr (.inr (.inr ⟨Z,t,s,Z,C,ab9,⟨_,_,BB m1,λhf=>?_⟩,h Z⟩)))⟩;have:=p hf;rw[<- this];rfl
def T6(I:L Ty×Bool)(S:ct)(W:Int)(T:L UInt8)(J:L Nd)(K:jW J)(B s:L Ty)(r:L Ty×Bool)(hf:bW 68 J=some B)(G:ep s S.st)(E:s.length+cV J<=339)(V:S.fr.length<=1099511627776)(A:cM 68 J (bf J) B s=(r,0)):bh W T 68 J S/\Comes I S r (aJ 68 J S):=by
 obtain⟨a,b,c,d,st,H,g,u,m,U⟩:=S;obtain⟨Q,q1,P,Y,rfl,rfl⟩:=JI hf bT;obtain⟨g1,D⟩:=Xf K;rw[D]at E;have M:=bP G;simp only at G M;cases s with
 |nil=>cases A
 |cons t s =>
 obtain⟨v,q,rfl,C,hq⟩:=bl G;simp only[aac]at M E;have N:(if(cE Y (s,false)).2≠0 then aR (cE Y (s,false)).2 else if(cE Y (s,false)).1.2=true then aR 1 else eT (t::(cE Y (s,false)).1.1))=(r,0):=A;split at N
 ·rename_i O;exact absurd (aeb Prod.snd N) O
 rename_i O;simp only[ne_eq,aey]at O;split at N
 ·cases N
 rename_i p;cases N;have e:aJ 68 [.mk 3 Q q1 P Y] ⟨a,b,c,d,v::q,H,g,u,m,U⟩=(0,dX ⟨a,b,c,d,q,H,g,u,m,U⟩ Y 1 [v]):=by unfold aJ;rw[Se];rfl
 unfold bh;rw[e]
 refine⟨fX _ _ 2 W 68 T _ [_] q _ bT (by rw[Se];rfl) ot (Nq ⟨a,b,c,d,q,H,g,u,m,U⟩ W T Q q1 P Y v cc V),
  .inr (.inl ⟨Z,⟨Y,0,1,[v]⟩,s,Z,g1,hq,λh=>?_⟩)⟩
 exact⟨ab9,g1,aeE _,_,_,BB O,λ_ => .inr (.inl ⟨Z,aaj _,[t],⟨C,trivial⟩,h Z⟩)⟩
def QA(D:L Ty×Bool)(S:ct)(P:Int)(A:L UInt8)(J:L Nd)(B s:L Ty)(r:L Ty×Bool)(hf:bW 67 J=some B)(G:ep s S.st)(C:s.length+cV J<=339)(O:S.fr.length<=1099511627776)(N:cM 67 J (bf J) B s=(r,0)):bh P A 67 J S/\Comes D S r (aJ 67 J S):=by
 obtain⟨a,b,c,d,st,fr,g,u,m,U⟩:=S;obtain⟨rfl,rfl⟩:=cQ hf bT;have E:=bP G;simp only at G E;rcases s with _|⟨Y,_|⟨V,s⟩⟩
 ·cases N
 ·cases N
 obtain⟨v,q0,rfl,p,pV⟩:=bl G;obtain⟨w,q,rfl,hw,hq⟩:=bl pV;have M:=cW hw.1;simp only[aac]at E C;have K:(if bS V=14/\dh Y (aE V 0)=true then eT (aE V 1::s)else aR 5)=(r,0):=N;split at K;rotate_left
 ·cases K
 rename_i c1;obtain⟨T,ts⟩:=V;obtain⟨W,c2⟩:=c1;simp only[bS]at W;subst W;obtain⟨t,Q,rfl,R1,X0⟩:=fz (cH M.1) bT;cases K;have et:Y=t:=(gF _ _).1 c2;subst et;obtain⟨code,rfl,I,XZ,H,hmt⟩:=Zr M.2.1 M.2.2;have hmc:=mW I;have e:aJ 67 [] ⟨a,b,c,d,v :: .mk 14 0 0 [] [] [Y,Q] code::q,fr,g,u,m,U⟩=(0,{dX ⟨a,b,c,d,q,fr,g,u,m,U⟩ code 2 q.reverse with st:=[v]}):=by unfold aJ;rw[Sd];rfl
 unfold bh;rw[e]
 refine⟨fX _ _ 2 P 67 A _ [_,_] q _ bT (by rw[Sd];rfl) (by show List.length (v::Vl.mk 14 0 0 [] [] [Y,Q] code::q)<=_;simp only[aac];omega) (Kk ⟨a,b,c,d,q,fr,g,u,m,U⟩ P A v 14 0 [] [Y,Q] code 0 [] cc O),
  .inr (.inl ⟨Z,⟨code,0,2,q.reverse⟩,[Y],Z,I,⟨p,trivial⟩,λh=>?_⟩)⟩
 refine⟨by show List.length [Y]+cV code<=340;simp only[aac,aad];omega,I,aeE _,_,_,BB XZ,λhf => .inr (.inr (.inl ⟨Z,by show q.reverse.length<=340;rw[aaF];omega,Q,s,H hf,by show ep s q.reverse.reverse;rw[afZ];exact hq,h Z⟩))⟩
def KJ(I:L Ty×Bool)(S:ct)(W:Int)(T:L UInt8)(J:L Nd)(M:jW J)(B s:L Ty)(r:L Ty×Bool)(hf:bW 66 J=some B)(G:ep s S.st)(hl:s.length+cV J<=339)(V:S.fr.length<=1099511627776)(p:r.1.all bB=true)(A:cM 66 J (bf J) B s=(r,0)):bh W T 66 J S/\Comes I S r (aJ 66 J S):=by
 obtain⟨a,b,c,d,q,H,g,u,m,U⟩:=S;have D:=zi M;obtain⟨x,y,Q,q1,P,Y,rfl,hx,hy,rfl⟩:=Xe hf bT;obtain⟨g1,gz⟩:=qk M (show Nd.mk 3 Q q1 P Y∈_ from aeM _ (aeM _ (agj ..)));have C:=bP G;simp only at G C;have N:(if jN Y=true then aR 5 else if(di (cE Y ([(aP x).1],false)) (eT [(aP y).1])).2≠0 then aR (di (cE Y ([(aP x).1],false)) (eT [(aP y).1])).2 else eT (.mk 14 [(aP x).1,(aP y).1]::s))=(r,0):=by
  obtain⟨kx,nx,px,sx,ax⟩:=x;obtain⟨ky,ny,py,sy,ay⟩:=y;exact A
 split at N
 ·cases N
 rename_i cm;split at N
 ·rename_i O;exact absurd (aeb Prod.snd N) O
 rename_i O;simp only[ne_eq,aey]at O;cases N;obtain⟨E,K⟩:=vi (a:=cE Y ([(aP x).1],false)) (b:=eT [(aP y).1]) (r:=(di (cE Y ([(aP x).1],false)) (eT [(aP y).1])).1) (by rw[<- O]);obtain⟨m3,m4⟩:=vj (a:=cE Y ([(aP x).1],false)) (b:=eT [(aP y).1]) (r:=(di (cE Y ([(aP x).1],false)) (eT [(aP y).1])).1) (by rw[<- O]);have hr:=m4 Z;rw[hr]at K;simp only[aU,bM]at D;have s1:=FX x bn;have s2:=FX y bn;have sx:bw (aP x).1<=1000000:=by
  rcases xq x with ⟨t,h1,_,_,h4⟩|h1
  ·grind
  ·rw[h1];decide
 have sy:bw (aP y).1<=1000000:=by
  rcases xq y with ⟨t,h1,_,_,h4⟩|h1
  ·grind
  ·rw[h1];decide
 have gx:bB (aP x).1=true:=qy (bK p) _ cS;have e:aJ 66 [x,y,.mk 3 Q q1 P Y] ⟨a,b,c,d,q,H,g,u,m,U⟩=bq ⟨a,b,c,d,q,H,g,u,m,U⟩ [.mk 14 0 0 [] [] [(aP x).1,(aP y).1] Y]:=by unfold aJ;rw[Sc];rfl
 have hv:bL (.mk 14 0 0 [] [] [(aP x).1,(aP y).1] Y) (.mk 14 [(aP x).1,(aP y).1])=true/\eP (.mk 14 0 0 [] [] [(aP x).1,(aP y).1] Y)=true:=by
  constructor
  ·unfold bL;simp[cz,bS,aE,au,(gF _ _).2 rfl]
  ·rw[E1 14 0 0 [] [] _ _ Y rfl];rw[YY g1 Z,if_neg cS,if_pos (by simp[gx])];simp only[cI,aai,aaA,aeH,agn];refine⟨⟨by first|exact E|exact aak E,?_⟩,by simpa using cm⟩;cases hb:(cE Y ([(aP x).1],false)).1.2 with
   |true=>exact .inl Z
   |false =>
    right;rw[<- K hb];exact(nh _ _).2 Z
 unfold bh;rw[e]
 exact⟨fX _ _ 2 W 66 T _ [] q _ bT (by rw[Sc];rfl) cc (FZ ⟨a,b,c,d,q,H,g,u,m,U⟩ W T x y Q q1 P Y bn bn (by simp only[aM,aO,bz,aad];omega) cc V),
  .inl (cu (S:=⟨a,b,c,d,q,H,g,u,m,U⟩) (fU (bK p) hv) G)⟩
def OX(I:L Ty×Bool)(P:Int)(S:ct)(hE:qb S.self S.iE S.iF S.balance=true)(hm:0<=S.az/\S.az<=bN)(Y:Int)(T:L UInt8)(J:L Nd)(Q:jW J)(B s:L Ty)(r:L Ty×Bool)(hf:bW P J=some B)(G:ep s S.st)(E:s.length+cV J<=339)(W:S.fr.length<=1099511627776)(U:r.1.all bB=true)(A:mU P J (bf J) B s=(r,0)):bh Y T P J S/\Comes I S r (aJ P J S):=by
 have D:aU J<=8589934593:=aeS (zi Q) bn;have V:s.length<=340:=by omega
 have hP:¬P<40:=by
  intro h;unfold bW at hf;rw[if_pos (.inl h)]at hf;cases hf
 have st:∀{p q:Prop},bh Y T P J S/\bY S r (aJ P J S)->bh Y T P J S/\Comes I S r (aJ P J S):=λh=>⟨h.1,.inl h.2⟩
 unfold mU at A;by_cases u:P<=44
 ·rw[if_pos u]at A;exact st (p:=True) (q:=True) (QB P bn S Y T J B s r hf G V A)
 rw[if_neg u]at A;by_cases H:P=45
 ·rw[if_pos H]at A;subst H;exact st (p:=True) (q:=True) (QC S Y T J D B s r hf G V U A)
 rw[if_neg H]at A;by_cases N:P<=58
 ·rw[if_pos N]at A;by_cases O:P=52
  ·subst O;exact KG I S Y T J Q B s r hf G E W A
  by_cases d2:P=55
  ·subst d2;exact KH I S Y T J Q B s r hf G E W A
  by_cases d3:P=58
  ·subst d3;exact KI I S Y T J Q B s r hf G E W A
  exact st (p:=True) (q:=True) (Hy P bn S Y T J D (bf J) B s r hf G V U A)
 rw[if_neg N]at A;by_cases c4:P<=63
 ·rw[if_pos c4]at A;by_cases O:P=60
  ·subst O;exact Qy I S Y T J Q B s r hf G E W A
  exact st (p:=True) (q:=True) (NZ P bn S Y T J D (bf J) B s r hf G V U A)
 rw[if_neg c4]at A;by_cases M:P<=68
 ·rw[if_pos M]at A;rcases(show P=64\/P=65\/P=66\/P=67\/P=68 by omega)with rfl|rfl|rfl|rfl|rfl
  ·exact Xg I S Y T J Q B s r hf G E W A
  ·exact Qz I S Y T J Q B s r hf G E W A
  ·exact KJ I S Y T J Q B s r hf G E W U A
  ·exact QA I S Y T J B s r hf G E W A
  ·exact T6 I S Y T J Q B s r hf G E W A
 rw[if_neg M]at A;by_cases K:P<=72\/P>=93
 ·rw[if_pos K]at A;have:P<=95:=by
   apply afe;intro h;unfold bX at A;rw[if_neg bn,if_neg bn,if_neg bn,if_pos bn]at A;cases A
  exact st (p:=True) (q:=True) (Hx P bn S Y T J D (bf J) B s r hf G V U A)
 rw[if_neg K]at A;by_cases C:P<=83
 ·rw[if_pos C]at A;by_cases O:P=83
  ·subst O;have h:=QD S Y T J B s r hf G V A;exact⟨h.1,.inr (.inr h.2)⟩
  exact st (p:=True) (q:=True) (Qq P bn S Y T J D (bf J) B s r hf G V U A)
 rw[if_neg C]at A;exact st (p:=True) (q:=True) (NY P bn S hE hm Y T J D (bf J) B s r hf G V U A)
def De(S u:ct):Prop:=u.self=S.self/\u.iE=S.iE/\u.iF=S.iF/\u.balance=S.balance/\u.cC=S.cC/\u.used=S.used
def QE(S:ct)(l:L Vl):De S (bq S l).2/\(bq S l).2.az=S.az:=⟨⟨Z,Z,Z,Z,Z,Z⟩,Z⟩
def Gg{c:Prop}[Decidable c]{Q:MR->Prop}{a b:MR}(h1:Q a)(h2:Q b):Q (if c then a else b):=by grind
def KM(S:ct)(o:MR):Prop:=De S o.2/\o.2.az=S.az
def xD(S:ct)(l:L Vl):KM S (bq S l):=QE S l
def xE(S u:ct)(e:Int)(h:De S u/\u.az=S.az):KM S (e,u):=h
def Xi(P:Int)(J:L Nd)(l:L Vl)(S:ct):KM S (Rq P J l S):=by
 unfold Rq
 repeat' (first|exact xD _ _|exact xE _ _ _ ⟨⟨Z,Z,Z,Z,Z,Z⟩,Z⟩|refine Gg ?_ ?_)
def T7(P:Int)(J:L Nd)(l:L Vl)(S:ct):KM S (JG P J l S):=by
 unfold JG
 repeat' (first|exact xD _ _|exact xE _ _ _ ⟨⟨Z,Z,Z,Z,Z,Z⟩,Z⟩|refine Gg ?_ ?_)
def N4(P:Int)(J:L Nd)(l:L Vl)(S:ct):KM S (AB P J l S):=by
 unfold AB;have h1:∀(c:L Nd)(f:Int)(a:L Vl)(q:L Vl),KM S (bq (dX S c f a) q):=λc f a q=>⟨⟨Z,Z,Z,Z,Z,Z⟩,Z⟩;cases eC (lV l 0)<;>dsimp only <;>
 repeat' (first|exact h1 _ _ _ _|exact xD _ _|exact xE _ _ _ ⟨⟨Z,Z,Z,Z,Z,Z⟩,Z⟩|refine Gg ?_ ?_)
def T8(P:Int)(J:L Nd)(l:L Vl)(S:ct):KM S (JH P J l S):=by
 unfold JH;cases eC (lV l 1)<;>dsimp only <;>
 repeat' (first|exact xD _ _|exact xE _ _ _ ⟨⟨Z,Z,Z,Z,Z,Z⟩,Z⟩|refine Gg ?_ ?_)
def QF(P:Int)(l:L Vl)(S:ct):KM S (DS P l S):=by
 unfold DS;dsimp only
 repeat' (first|exact xD _ _|exact xE _ _ _ ⟨⟨Z,Z,Z,Z,Z,Z⟩,Z⟩|refine Gg ?_ ?_)
def Xj(P:Int)(J:L Nd)(l:L Vl)(S:ct):KM S (Rr P J l S):=by
 unfold Rr;dsimp only
 repeat' (first|exact xD _ _|exact xE _ _ _ ⟨⟨Z,Z,Z,Z,Z,Z⟩,Z⟩|refine Gg ?_ ?_)
def T9(P:Int)(J:L Nd)(l:L Vl)(S:ct):De S (BJ P J l S).2/\((BJ P J l S).2.az=S.az\/P=84/\S.az<=bN-vN (lV l 1)/\(BJ P J l S).2.az=S.az+vN (lV l 1)):=by
 have Q:∀{o:MR},KM S o->De S o.2/\(o.2.az=S.az\/P=84/\S.az<=bN-vN (lV l 1)/\o.2.az=S.az+vN (lV l 1)):=λh=>⟨h.1,.inl h.2⟩
 unfold BJ;dsimp only;by_cases c:P=84
 ·subst c;rw[if_neg bT,if_neg bT,if_neg bT,if_neg bT,if_pos rfl];by_cases u:vN (lV l 1)=0
  ·rw[if_pos u];exact Q (xD _ _)
  rw[if_neg u];by_cases H:S.az>bN-vN (lV l 1)
  ·rw[if_pos H];exact Q (xE _ _ _ ⟨⟨Z,Z,Z,Z,Z,Z⟩,Z⟩)
  rw[if_neg H];exact⟨ce,.inr ⟨Z,bn,Z⟩⟩
 ·rw[if_neg (c:=P=84) c];refine Q ?_
  repeat' (first|exact xD _ _|exact xE _ _ _ ⟨⟨Z,Z,Z,Z,Z,Z⟩,Z⟩|refine Gg ?_ ?_)
def Ua(P:Int)(J:L Nd)(l:L Vl)(S:ct):De S (zx P J l S).2/\((zx P J l S).2.az=S.az\/P=84/\S.az<=bN-vN (lV l 1)/\(zx P J l S).2.az=S.az+vN (lV l 1)):=by
 have Q:∀{o:MR},KM S o->De S o.2/\(o.2.az=S.az\/P=84/\S.az<=bN-vN (lV l 1)/\o.2.az=S.az+vN (lV l 1)):=λh=>⟨h.1,.inl h.2⟩
 unfold zx;by_cases u:P<=44
 ·rw[if_pos u];exact Q (Xi ..)
 rw[if_neg u];by_cases H:P<=56/\P≠52/\P≠55
 ·rw[if_pos H];exact Q (T7 ..)
 rw[if_neg H];by_cases p:P=52\/P=55\/P=58\/P=60\/64<=P/\P<=68
 ·rw[if_pos p];exact Q (N4 ..)
 rw[if_neg p];by_cases c4:P<=63
 ·rw[if_pos c4];exact Q (T8 ..)
 rw[if_neg c4];by_cases Y:P<=72\/P>=93
 ·rw[if_pos Y];exact Q (QF ..)
 rw[if_neg Y];by_cases O:P<=83
 ·rw[if_pos O];exact Q (Xj ..)
 rw[if_neg O];exact T9 ..
def U5(P:Int)(J:L Nd)(S:ct)(B s:L Ty)(r:L Ty×Bool)(C:0<=S.az/\S.az<=bN)(G:ep s S.st)(hf:bW P J=some B)(A:mU P J (bf J) B s=(r,0)):De S (aJ P J S).2/\0<=(aJ P J S).2.az/\(aJ P J S).2.az<=bN/\S.az<=(aJ P J S).2.az:=by
 unfold aJ;cases I:jS (cr P) S.st with
 |none=>exact⟨⟨Z,Z,Z,Z,Z,Z⟩,C.1,C.2,aeX _⟩
 |some Q =>
  obtain⟨l,q⟩:=Q;obtain⟨h1,h2⟩:=Ua P J l {S with st:=q};refine⟨h1,?_⟩;simp only at h2 ⊢;rcases h2 with h2|⟨rfl,h2,O⟩
  ·omega
  ·rw[O];have V:0<=vN (lV l 1):=by
    rw[Kp]at I;have N:cg 84 B s=(r,0):=A;rcases s with _|⟨Y,_|⟨W,s⟩⟩
    ·cases N
    ·cases N
    obtain⟨v,q0,M,hv,K⟩:=bl G;obtain⟨w,q1,rfl,H,hq⟩:=bl K;rw[M]at I;have E:l=[v,w]:=by
     have D:some ([v,w],q1)=some (l,q):=I;cases D;rfl
    subst E;have U:(if bS W=4/\fY Y=true then eT (.mk 9 [.mk 15 [Y]]::s)else aR 5)=(r,0):=N;split at U
    ·rename_i c4;have u:=cW H.1;obtain⟨T,ts⟩:=W;have:T=4:=c4.1;subst this;obtain⟨n,rfl,V⟩:=gl (.inr (.inr (.inl rfl))) u.2.1;have p:=(Qe V).2.2.1 Z;show 0<=n;exact p.1
    ·cases U
   omega
def mQ(S:ct)(F:iJ)(t:List iJ):MR :=
 if F.fin=1 then(0,{S with st:=F.aside.reverse++S.st,fr:=t})
 else if F.fin=2 then(match S.st with
  |[]=>(14,S)
  |v::_=>(0,{S with st:=v::F.aside.reverse,fr:=t}))
 else if F.fin=3 then(match F.aside with
  |[]=>(0,{S with fr:=t})
  |x::q=>if S.cC<=S.used then(12,S)else(0,{S with st:=x::S.st,fr:=⟨F.code,0,3,q⟩::t,used:=S.used+1}))
 else if F.fin=4 then(match S.st with
  |[]=>(14,S)
  |v::q=>if vN v=1 then(if S.cC<=S.used then(12,{S with st:=q})else(0,{S with st:=q,fr:=⟨F.code,0,4,F.aside⟩::t,used:=S.used+1}))else(0,{S with st:=q,fr:=t}))
 else(0,{S with fr:=t})
def lG:Nat->ct->MR
 |0,S=>(12,S)
 |k+1,S=>match S.fr with
  |[]=>(0,S)
  |F::t=>if F.pos=F.code.length then(if(mQ S F t).1=0 then lG k (mQ S F t).2 else mQ S F t)
   else match F.code[F.pos]? with
    |none=>(14,S)
    |some (.mk T N P s J) =>
     if T=3 then lG k (dX (iQ S F t) J 0 [])
     else if T≠2 then(14,iQ S F t)
     else if S.cC<=S.used then(12,iQ S F t)
     else if(aJ P J {iQ S F t with used:=S.used+1}).1=0 then lG k (aJ P J {iQ S F t with used:=S.used+1}).2 else aJ P J {iQ S F t with used:=S.used+1}
structure MT(pr:List Ty×Bool)(S:ct)(s:List Ty):Prop where
 fit:ep s S.st
 ft:FT pr S.fr s
 env:qb S.self S.iE S.iF S.balance=true
 Yf:0<=S.az/\S.az<=bN
 used:0<=S.used/\S.used<=S.cC
 cC:S.cC<=1000000
def left(S:ct):Nat:=(S.cC-S.used).toNat*900+zh S.fr
def Ew(S u:ct):Prop:=u.self=S.self/\u.iE=S.iE/\u.iF=S.iF/\u.balance=S.balance/\u.cC=S.cC
def OV(I:L Ty×Bool)(S:ct)(o:MR):Prop :=
 Ew S o.2/\(0<=o.2.used/\o.2.used<=o.2.cC)/\(0<=o.2.az/\o.2.az<=bN) /\
 ((o.1=0/\∃Q,MT I o.2 Q/\left o.2<left S)\/o.1=11\/o.1=13\/(o.1=12/\o.2.used=o.2.cC)\/(o.1=10/\vK o.2.said≠0/\aM o.2.said<=25000000))
def LF{l:L Nd}{i:Nat}{x:Nd}(h:l[i]?=some x):cV (l.drop i)=many x+cV (l.drop (i+1)):=by
 have e:l.drop i=x::l.drop (i+1):=by
  obtain⟨h1,h2⟩:=List.getElem?_eq_some_iff.1 h;rw[agd h1,h2]
 rw[e];rfl
def U6(l:L Nd)(i:Nat):cV (l.drop i)<=cV l:=by
 induction i generalizing l with
 |zero=>exact aaj _
 |succ i Y=>cases l with
  |nil=>exact aaj _
  |cons x l=>have:=Y l;simp only[afB,cV];omega
def z8{c:Prop}[Decidable c]{Q:MR->Prop}{a b:MR}(h1:c->Q a)(h2:¬c->Q b):Q (if c then a else b):=by grind
def Js(S:ct)(F:iJ)(t:List iJ)(h:S.fr=F::t)(hf:F.fin=0\/F.fin=1\/F.fin=2\/F.fin=3\/F.fin=4)(V:S.st.length<=500000000)(ha:F.fin=1\/F.fin=2->F.aside.length<=500000000)(E:t.length<=1099511627776)(K:Rh S.cC)(Q:0<=S.used) :
  je 55 S [.ptr 1000002 (0+t.length*4)] (mQ S F t):=by
 obtain⟨a,b,c,d,T,H,g,u,m,U⟩:=S;obtain⟨code,Y,fin,P⟩:=F;simp only at h hf V ha K Q;subst h;rcases hf with rfl|rfl|rfl|rfl|rfl
 ·exact KK ⟨a,b,c,d,T,⟨code,Y,0,P⟩::t,g,u,m,U⟩ ⟨code,Y,0,P⟩ t Z Z E
 ·exact QG a b c d T g u m U code Y P t V (ha (.inl Z)) E
 ·cases T with
  |nil=>exact KL a b c d [] g u m U code Y P t E
  |cons v T =>
   simp only[aac]at V;cases P with
   |nil=>exact KN a b c d v T g u m U code Y t bn E
   |cons x q=>exact KO a b c d v T g u m U code Y x q t bn (by have:=ha (.inr Z);simp only[aac]at this;omega) E
 ·cases P with
  |nil=>exact KP a b c d T g u m U code Y t E
  |cons x q =>
   show je _ _ _ (if g<=u then _ else _:MR);by_cases G:g<=u
   ·rw[if_pos G];exact KQ a b c d T g u m U code Y x q t G E
   ·rw[if_neg G];exact KR a b c d T g u m U code Y x q t bn K Q V E
 ·cases T with
  |nil=>exact KS a b c d [] g u m U code Y P t cS E
  |cons v T =>
   obtain⟨J,O,N,M,W,D,I⟩:=v;simp only[aac]at V;show je _ _ _ (if O=1 then(if g<=u then _ else _)else _:MR);by_cases B:O=1
   ·subst B;rw[if_pos rfl];by_cases G:g<=u
    ·rw[if_pos G];exact KT a b c d J N M W D I T g u m U code Y P t G bn E
    ·rw[if_neg G];exact KU a b c d J N M W D I T g u m U code Y P t bn K Q bn E
   ·rw[if_neg B];exact KV a b c d J O N M W D I B T g u m U code Y P t bn E
def As{I:L Ty×Bool}{S:ct}{s:L Ty}{F:iJ}{t:List iJ}(hT:MT I S s)(h:S.fr=F::t)(hp:F.pos=F.code.length):(F.fin=0\/F.fin=1\/F.fin=2\/F.fin=3\/F.fin=4)/\(F.fin=1\/F.fin=2->F.aside.length<=500000000)/\OV I S (mQ S F t):=by
 obtain⟨B,Dt,D,Y,W,Q⟩:=hT;obtain⟨a,b,c,d,T,fr,g,u,m,U⟩:=S;obtain⟨code,pos,fin,P⟩:=F;simp only at *;subst h;subst hp;obtain⟨f1,G,f3,s',f',N,C⟩:=Dt;simp only at f1 G f3 N C;have e4:(s,false)=(s',f'):=by
  unfold CB at N;rw[Bg]at N;simp only[cE,aff,agy]at N;rw[aff];exact N
 simp only[aff]at e4;obtain⟨rfl,rfl⟩:=e4;have g0:=mW G;have O:zh (⟨code,code.length,fin,P⟩::t)=1+zh t:=by
  simp only[zh,Ye,Bg,cV]
 have hz:cV (code.drop 0)=cV code:=rfl;rcases C rfl with ⟨rfl,k⟩|⟨rfl,k0,w,J,k⟩|⟨rfl,k0,t0,w,J,A,k⟩|⟨rfl,e,J,A,⟨M,V,K,H⟩,k⟩|⟨rfl,a0,E,J,A,K,⟨M,V,H,k5⟩,k⟩
 ·refine⟨.inl rfl,(λh=>by rcases h with h|h<;>cases h),⟨rfl,rfl,rfl,rfl,rfl⟩,W,Y,.inl ⟨rfl,s,⟨B,k,D,Y,W,Q⟩,?_⟩⟩;show left ⟨a,b,c,d,T,t,g,u,m,U⟩<left ⟨a,b,c,d,T,⟨code,code.length,0,P⟩::t,g,u,m,U⟩;simp only[left,O];omega
 ·refine⟨.inr (.inl Z),λ_=>by omega,⟨Z,Z,Z,Z,Z⟩,W,Y,.inl ⟨Z,w++s,⟨Bh J B,k,D,Y,W,Q⟩,?_⟩⟩;show left ⟨a,b,c,d,P.reverse++T,t,g,u,m,U⟩<left ⟨a,b,c,d,T,⟨code,code.length,1,P⟩::t,g,u,m,U⟩;simp only[left,O];omega
 ·refine⟨.inr (.inr (.inl Z)),λ_=>by omega,?_⟩;subst J;obtain⟨v,q,rfl,hv,hq⟩:=bl B;refine⟨⟨Z,Z,Z,Z,Z⟩,W,Y,.inl ⟨Z,t0::w,⟨⟨hv,A⟩,k,D,Y,W,Q⟩,?_⟩⟩;show left ⟨a,b,c,d,v::P.reverse,t,g,u,m,U⟩<left ⟨a,b,c,d,v::q,⟨code,code.length,2,P⟩::t,g,u,m,U⟩;simp only[left,O];omega
 ·refine⟨.inr (.inr (.inr (.inl rfl))),(λh=>by rcases h with h|h<;>cases h),?_⟩;cases P with
  |nil =>
   refine⟨⟨Z,Z,Z,Z,Z⟩,W,Y,.inl ⟨Z,s,⟨B,k,D,Y,W,Q⟩,?_⟩⟩;show left ⟨a,b,c,d,T,t,g,u,m,U⟩<left ⟨a,b,c,d,T,⟨code,code.length,3,[]⟩::t,g,u,m,U⟩;simp only[left,O];omega
  |cons x q =>
   show OV I _ (if g<=u then _ else _:MR);refine z8 (λp=>?_) (λp=>?_)
   ·exact⟨⟨Z,Z,Z,Z,Z⟩,W,Y,.inr (.inr (.inr (.inl ⟨Z,by show u=g;omega⟩)))⟩
   ·refine⟨⟨Z,Z,Z,Z,Z⟩,⟨acE,acO⟩,Y,.inl ⟨Z,e::s,⟨⟨J x cS,B⟩,?_,D,Y,⟨acE,acO⟩,Q⟩,?_⟩⟩
    ·refine⟨by show s.length+1+cV code<=340;exact A,G,aeE _,M,V,K,λhf=>?_⟩;have e3:=H hf;rw[e3];refine .inr (.inr (.inr (.inl ⟨Z,e,λy hy=>J y (by simp[hy]),A,⟨M,V,K,H⟩,k⟩)))
    ·show left ⟨a,b,c,d,x::T,⟨code,0,3,q⟩::t,g,u+1,m,U⟩<left ⟨a,b,c,d,T,⟨code,code.length,3,x::q⟩::t,g,u,m,U⟩;simp only[left,O];simp only[zh,Ye,agb];omega
 ·refine⟨.inr (.inr (.inr (.inr rfl))),(λh=>by rcases h with h|h<;>cases h),?_⟩;subst J;obtain⟨v,q,rfl,hv,hq⟩:=bl B;show OV I _ (if vN v=1 then(if g<=u then _ else _)else _:MR);refine z8 (λhn=>z8 (λp=>?_) (λp=>?_)) (λhn=>?_)
  ·exact⟨⟨Z,Z,Z,Z,Z⟩,W,Y,.inr (.inr (.inr (.inl ⟨Z,by show u=g;omega⟩)))⟩
  ·refine⟨⟨Z,Z,Z,Z,Z⟩,⟨acE,acO⟩,Y,.inl ⟨Z,E,⟨hq,?_,D,Y,⟨acE,acO⟩,Q⟩,?_⟩⟩
   ·refine⟨K,G,aeE _,M,V,H,λhf => .inr (.inr (.inr (.inr ⟨Z,a0,E,k5 hf,A,K,⟨M,V,H,k5⟩,k⟩)))⟩
   ·show left ⟨a,b,c,d,q,⟨code,0,4,P⟩::t,g,u+1,m,U⟩<left ⟨a,b,c,d,v::q,⟨code,code.length,4,P⟩::t,g,u,m,U⟩;simp only[left,O];simp only[zh,Ye,agb];omega
  ·refine⟨⟨Z,Z,Z,Z,Z⟩,W,Y,.inl ⟨Z,E,⟨hq,k,D,Y,W,Q⟩,?_⟩⟩;show left ⟨a,b,c,d,q,t,g,u,m,U⟩<left ⟨a,b,c,d,v::q,⟨code,code.length,4,P⟩::t,g,u,m,U⟩;simp only[left,O];omega
end Go.Proofs
