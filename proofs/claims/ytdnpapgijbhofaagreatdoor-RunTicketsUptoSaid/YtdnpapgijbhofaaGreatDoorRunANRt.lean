/- Package run: -/
import Derived.Test.YtdnpapgijbhofaaGreatDoorRunAJRt
import Derived.Test.YtdnpapgijbhofaaGreatDoorRunHRt
set_option linter.defProp false
set_option linter.unusedVariables false
set_option linter.unusedSimpArgs false
set_option maxRecDepth 100000
namespace Go.Proofs
open Go.cB
def sq{pr:L Ty×Bool}{S:bE}{c:L Nd}{l:L Vl}{H:L Ty}{r:L Ty×Bool}(A:(bH c (H,false)).2=0)(p:(bH c (H,false)).1.2=false->r=(bH c (H,false)).1)(V:H.length+cz c<=340)(T:iV c)
  (C:cD H (l.reverse++S.st)):Comes pr S r (aQ (dh S c 0 []) l):=by
 rcases oM l S.st with h1|⟨h1,h2,U⟩
 exact .inl (.inr (.inr h1));refine .inr (.inl ⟨h1,⟨c,0,0,[]⟩,H,Z,T,?_,λh=>H7 A p V T h⟩);show cD _ (lF l S.st).2;grind
def xN{pr:L Ty×Bool}{S:bE}{c:L Nd}{H:L Ty}{r:L Ty×Bool}(A:(bH c (H,false)).2=0)(p:(bH c (H,false)).1.2=false->r=(bH c (H,false)).1)(V:H.length+cz c<=340)(T:iV c)
  (C:cD H S.st):Comes pr S r (0,dh S c 0 []) :=
 .inr (.inl ⟨Z,⟨c,0,0,[]⟩,H,Z,T,C,λh=>H7 A p V T h⟩)
def OG{Y q1:Int}{q:L UInt8}{p:L Nd}{J V:Int}{K:L UInt8}{M:L Nd}(h:iV [.mk 3 Y q1 q p,.mk 3 J V K M]):iV p/\iV M/\cz [.mk 3 Y q1 q p,.mk 3 J V K M]=cz p+cz M+2 :=
 ⟨(nh h (acY ..)).1,(nh h (abN _ (acY ..))).1,by simp only[cz,many];try omega⟩
def Tk{Y q1:Int}{q:L UInt8}{p:L Nd}(h:iV [.mk 3 Y q1 q p]):iV p/\cz [.mk 3 Y q1 q p]=cz p+1 :=
 ⟨(nh h (acY ..)).1,by simp only[cz,many];try omega⟩
def H8(pr:L Ty×Bool)(S:bE)(G:Int)(Y:L UInt8)(args:L Nd)(wv:iV args)(types s:L Ty)(r:L Ty×Bool)(hf:br 52 args=some types)(C:cD s S.st)(hl:s.length+cz args<=339)(W:S.fr.length<=1099511627776)(E:cF 52 (bS args) types s=(r,0)):aW G Y 52 args S/\Comes pr S r (aq 52 args S):=by
 obtain⟨a,b,c,d,st,I,g,u,m,B⟩:=S;obtain⟨V,q1,J,p,D,U,K,M,rfl,rfl⟩:=qt hf cc;obtain⟨g1,g2,gz⟩:=OG wv;have eH:=bq C;cases s with
 |nil=>cases E
 |cons t s =>
 obtain⟨v,q,rfl,P,hq⟩:=aF C;have O:=bO P.1;simp at eH hl;have Q:(if cq t=12 then cn (bH p (aG t 0::s,false)) (bH M (aG t 1::s,false))else aX 5)=(r,0):=E;split at Q;rotate_left;cases Q;rename_i zP;obtain⟨T,ts⟩:=t;subst zP;obtain⟨t1,t2,rfl,AY,Jr⟩:=cJ (bl O.1) cc;obtain⟨x,N,A⟩:=GK O.2.1 O.2.2;obtain⟨m1,m2⟩:=kI Q;obtain⟨m3,m4⟩:=kJ Q;rcases N with ⟨rfl,N⟩|⟨rfl,N⟩
 ·have H:=P.2;simp only[aE,aB]at H;have e:aq 52 [.mk 3 V q1 J p,.mk 3 D U K M] ⟨a,b,c,d,.mk 12 0 0 [] [x] [] []::q,I,g,u,m,B⟩=aQ (dh ⟨a,b,c,d,q,I,g,u,m,B⟩ p 0 []) [x]:=by unfold aq;rfl
  rw[e]
  exact⟨fj _ _ 2 G 52 Y _ [_] q _ cc (by rw[ym];rfl) (by show List.length (Vl.mk 12 0 0 [] [x] [] []::q)<=_;simp only[aaa];omega) (EI ⟨a,b,c,d,q,I,g,u,m,B⟩ G Y V q1 J p D U K M 12 0 [] [] [] x bn cm W),
   sq (S:=⟨a,b,c,d,q,I,g,u,m,B⟩) m1 m2 ek g1 ⟨⟨dJ (er O.1 _ S4) ⟨N,A⟩,bn⟩,hq⟩⟩
 have H:=P.2;simp only[aE,aB,aU,aM,aab]at H;have e:aq 52 [.mk 3 V q1 J p,.mk 3 D U K M] ⟨a,b,c,d,.mk 12 1 0 [] [x] [] []::q,I,g,u,m,B⟩=aQ (dh ⟨a,b,c,d,q,I,g,u,m,B⟩ M 0 []) [x]:=by unfold aq;rw[ym];rfl
 rw[e]
 exact⟨fj _ _ 2 G 52 Y _ [_] q _ cc (by rw[ym];rfl) (by show List.length (Vl.mk 12 1 0 [] [x] [] []::q)<=_;simp only[aaa];omega) (EJ ⟨a,b,c,d,q,I,g,u,m,B⟩ G Y V q1 J p D U K M 12 0 [] [] [] x bn cm W),
  sq (S:=⟨a,b,c,d,q,I,g,u,m,B⟩) m3 m4 ek g2 ⟨⟨dJ (er O.1 _ S4) ⟨N,A⟩,bn⟩,hq⟩⟩
def H9(pr:L Ty×Bool)(S:bE)(G:Int)(Y:L UInt8)(args:L Nd)(A:iV args)(types s:L Ty)(r:L Ty×Bool)(hf:br 55 args=some types)(C:cD s S.st)(H:s.length+cz args<=339)(W:S.fr.length<=1099511627776)(P:cF 55 (bS args) types s=(r,0)):aW G Y 55 args S/\Comes pr S r (aq 55 args S):=by
 obtain⟨a,b,c,d,st,I,g,u,m,B⟩:=S;obtain⟨V,q1,J,p,D,U,K,M,rfl,rfl⟩:=qt hf cc;obtain⟨g1,E,gz⟩:=OG A;have eH:=bq C;cases s with
 |nil=>cases P
 |cons t s =>
 obtain⟨v,q,rfl,N,hq⟩:=aF C;have O:=bO N.1;simp at eH H;have Q:(if cq t=9 then cn (bH p (s,false)) (bH M (aG t 0::s,false))else aX 5)=(r,0):=P;split at Q;rotate_left;cases Q;rename_i zP;obtain⟨T,ts⟩:=t;subst zP;obtain⟨t1,rfl,AY⟩:=cO (bl O.1) cc;obtain⟨m1,m2⟩:=kI Q;obtain⟨m3,m4⟩:=kJ Q;rcases yo O.2.1 O.2.2 with rfl|⟨x,rfl,hx,U0⟩
 ·have e:aq 55 [.mk 3 V q1 J p,.mk 3 D U K M] ⟨a,b,c,d,bN []::q,I,g,u,m,B⟩=aQ (dh ⟨a,b,c,d,q,I,g,u,m,B⟩ p 0 []) []:=by unfold aq;rfl
  rw[e]
  exact⟨fj _ _ 2 G 55 Y _ [_] q _ cc (by rw[BR];rfl) (by show List.length (bN []::q)<=_;simp;omega) (EK ⟨a,b,c,d,q,I,g,u,m,B⟩ G Y V q1 J p D U K M 9 0 [] [] [] 0 cm W),
   sq (S:=⟨a,b,c,d,q,I,g,u,m,B⟩) m1 m2 bn g1 hq⟩
 have hz:=N.2;simp only[bN,aE,aB]at hz;have e:aq 55 [.mk 3 V q1 J p,.mk 3 D U K M] ⟨a,b,c,d,bN [x]::q,I,g,u,m,B⟩=aQ (dh ⟨a,b,c,d,q,I,g,u,m,B⟩ M 0 []) [x]:=by unfold aq;rfl
 rw[e]
 exact⟨fj _ _ 2 G 55 Y _ [_] q _ cc (by rw[BR];rfl) (by show List.length (bN [x]::q)<=_;simp;omega) (EL ⟨a,b,c,d,q,I,g,u,m,B⟩ G Y V q1 J p D U K M 9 0 [] [] [] 0 x bn cm W),
  sq (S:=⟨a,b,c,d,q,I,g,u,m,B⟩) m3 m4 ob E ⟨⟨dJ (er O.1 _ S4) ⟨hx,U0⟩,bn⟩,hq⟩⟩
def Ia(pr:L Ty×Bool)(S:bE)(G:Int)(Y:L UInt8)(args:L Nd)(A:iV args)(types s:L Ty)(r:L Ty×Bool)(hf:br 58 args=some types)(C:cD s S.st)(hl:s.length+cz args<=339)(W:S.fr.length<=1099511627776)(N:cF 58 (bS args) types s=(r,0)):aW G Y 58 args S/\Comes pr S r (aq 58 args S):=by
 obtain⟨a,b,c,d,st,I,g,u,m,B⟩:=S;obtain⟨V,q1,J,p,D,U,K,M,rfl,rfl⟩:=qt hf cc;obtain⟨g1,g2,gz⟩:=OG A;have eH:=bq C;cases s with
 |nil=>cases N
 |cons t s =>
 obtain⟨v,q,rfl,H,hq⟩:=aF C;have O:=bO H.1;simp at eH hl;have Q:(if cq t=10 then cn (bH p (aG t 0::t::s,false)) (bH M (s,false))else aX 5)=(r,0):=N;split at Q;rotate_left;cases Q;rename_i zP;obtain⟨T,ts⟩:=t;subst zP;obtain⟨t1,rfl,AY⟩:=cO (bl O.1) cc;obtain⟨m1,m2⟩:=kI Q;obtain⟨m3,m4⟩:=kJ Q;obtain⟨l,rfl,tV,P,E⟩:=nU O.2.1 O.2.2;cases l with
 |nil =>
  have e:aq 58 [.mk 3 V q1 J p,.mk 3 D U K M] ⟨a,b,c,d,.mk 10 0 0 [] [] [] []::q,I,g,u,m,B⟩=(0,dh ⟨a,b,c,d,q,I,g,u,m,B⟩ M 0 []):=by unfold aq;rfl
  rw[e]
  exact⟨fj _ _ 2 G 58 Y _ [_] q _ cc (by rw[yp];rfl) (by show List.length (Vl.mk 10 0 0 [] [] [] []::q)<=_;simp;omega) (EM ⟨a,b,c,d,q,I,g,u,m,B⟩ G Y V q1 J p D U K M 10 0 [] [] [] 0 cm W),
   xN (S:=⟨a,b,c,d,q,I,g,u,m,B⟩) m3 m4 bn g2 hq⟩
 |cons x xs =>
  have hz:=H.2;simp only[aE,aB]at hz;have e:aq 58 [.mk 3 V q1 J p,.mk 3 D U K M] ⟨a,b,c,d,.mk 10 0 0 [] (x::xs) [] []::q,I,g,u,m,B⟩=aQ (dh ⟨a,b,c,d,q,I,g,u,m,B⟩ p 0 []) [.mk 10 0 0 [] xs [] [],x]:=by unfold aq;rw[yp];rfl
  rw[e];simp only[aJ,aak]at P;simp only[ee,aak]at E;simp only[aaa]at tV
  exact⟨fj _ _ 2 G 58 Y _ [_] q _ cc (by rw[yp];rfl) (by show List.length (Vl.mk 10 0 0 [] (x::xs) [] []::q)<=_;simp only[aaa];omega) (EN ⟨a,b,c,d,q,I,g,u,m,B⟩ G Y V q1 J p D U K M 10 0 [] [] [] 0 x xs bn Wl cm W),
   sq (S:=⟨a,b,c,d,q,I,g,u,m,B⟩) m1 m2 ek g1 ⟨⟨dJ (er O.1 _ S4) ⟨P.1,E.1⟩,bn⟩,⟨dJ O.1 (yq bn P.2 E.2),Wl⟩,hq⟩⟩
def Tl(pr:L Ty×Bool)(S:bE)(G:Int)(Y:L UInt8)(args:L Nd)(A:iV args)(types s:L Ty)(r:L Ty×Bool)(hf:br 64 args=some types)(C:cD s S.st)(O:s.length+cz args<=339)(W:S.fr.length<=1099511627776)(P:dB 64 args (bS args) types s=(r,0)):aW G Y 64 args S/\Comes pr S r (aq 64 args S):=by
 obtain⟨a,b,c,d,st,I,g,u,m,B⟩:=S;obtain⟨V,q1,J,p,D,U,K,M,rfl,rfl⟩:=qt hf cc;obtain⟨g1,N,gz⟩:=OG A;have H:=bq C;cases s with
 |nil=>cases P
 |cons t s =>
 obtain⟨v,q,rfl,E,hq⟩:=aF C;have f1:=bO E.1;simp at H O;have Q:(if cq t=2 then cn (bH p (s,false)) (bH M (s,false))else aX 5)=(r,0):=P;split at Q;rotate_left;cases Q;rename_i zP;obtain⟨T,ts⟩:=t;subst zP;obtain⟨m1,m2⟩:=kI Q;obtain⟨m3,m4⟩:=kJ Q;rcases Js f1.2.1 with rfl|rfl
 ·have e:aq 64 [.mk 3 V q1 J p,.mk 3 D U K M] ⟨a,b,c,d,aI 2 0::q,I,g,u,m,B⟩=(0,dh ⟨a,b,c,d,q,I,g,u,m,B⟩ M 0 []):=by unfold aq;rfl
  rw[e]
  exact⟨fj _ _ 2 G 64 Y _ [_] q _ cc (by rw[BS];rfl) (by show List.length (aI 2 0::q)<=_;simp;omega) (Kf ⟨a,b,c,d,q,I,g,u,m,B⟩ G Y V q1 J p D U K M 2 0 [] [] [] [] cm W),
   xN (S:=⟨a,b,c,d,q,I,g,u,m,B⟩) m3 m4 bn N hq⟩
 have e:aq 64 [.mk 3 V q1 J p,.mk 3 D U K M] ⟨a,b,c,d,aI 2 1::q,I,g,u,m,B⟩=(0,dh ⟨a,b,c,d,q,I,g,u,m,B⟩ p 0 []):=by unfold aq;rfl
 rw[e]
 exact⟨fj _ _ 2 G 64 Y _ [_] q _ cc (by rw[BS];rfl) (by show List.length (aI 2 1::q)<=_;simp;omega) (Kg ⟨a,b,c,d,q,I,g,u,m,B⟩ G Y V q1 J p D U K M 2 0 [] [] [] [] cm W),
  xN (S:=⟨a,b,c,d,q,I,g,u,m,B⟩) m1 m2 bn g1 hq⟩
def pJ{α:Type}(l:List α):l.drop l.length=[]:=aaW
def Ni(pr:L Ty×Bool)(S:bE)(G:Int)(W:L UInt8)(args:L Nd)(wv:iV args)(types s:L Ty)(r:L Ty×Bool)(hf:br 60 args=some types)(C:cD s S.st)(hl:s.length+cz args<=339)(V:S.fr.length<=1099511627776)(D:gK 60 (bS args) types s=(r,0)):aW G W 60 args S/\Comes pr S r (aq 60 args S):=by
 obtain⟨a,b,c,d,st,I,g,u,m,B⟩:=S;obtain⟨K,q1,J,p,rfl,rfl⟩:=zR hf cc;obtain⟨g1,gz⟩:=Tk wv;have eH:=bq C;cases s with
 |nil=>cases D
 |cons t s =>
 obtain⟨v,q,rfl,H,hq⟩:=aF C;have O:=bO H.1;simp at eH hl;have Y:(if cq t=10\/cq t=13 then cn (bH p ((if cq t=13 then .mk 11 (aK t)else aG t 0)::s,false)) (eB s)else aX 5)=(r,0):=D;split at Y;rotate_left;cases Y;rename_i zP;obtain⟨A,m2⟩:=kI Y;obtain⟨m3,m4⟩:=kJ Y;have hr:r=(s,false):=m4 Z;subst hr;have U:∃k xs e,v = .mk k 0 0 [] xs [] []/\(∀x∈xs,Fit e x)/\(if cq t=13 then .mk 11 (aK t)else aG t 0)=e:=by
  obtain⟨T,ts⟩:=t;have hz:=H.2;rcases zP with rfl|rfl
  obtain⟨Q,rfl,AY⟩:=cO (bl O.1) cc;obtain⟨l,rfl,tV,P,E⟩:=nU O.2.1 O.2.2;simp only[aE]at hz;exact⟨10,l,Q,Z,λx N=>⟨dJ (er O.1 _ c9) ⟨(dM _ l).1 P x N,pI E N⟩,R7⟩,Z⟩;obtain⟨Q,t2,rfl,AY,Jr⟩:=cJ (bl O.1) cc;obtain⟨l,rfl,tV,P,RE,E⟩:=qu O.2.1 O.2.2;simp only[aE]at hz;exact⟨13,l,.mk 11 [Q,t2],Z,λx N=>⟨dJ (w9 O.1) ⟨(dM _ l).1 P x N,pI E N⟩,R7⟩,Z⟩
 obtain⟨k,xs,e0,rfl,M,he⟩:=U;rw[he]at A m2;have e:aq 60 [.mk 3 K q1 J p] ⟨a,b,c,d,.mk k 0 0 [] xs [] []::q,I,g,u,m,B⟩=(0,qv ⟨a,b,c,d,q,I,g,u,m,B⟩ p 3 xs):=by unfold aq;rfl
 unfold aW;rw[e]
 refine⟨fj _ _ 2 G 60 W _ [_] q _ cc (by rw[Oc];rfl) (by show List.length (Vl.mk k 0 0 [] xs [] []::q)<=_;simp only[aaa];omega) (Hp ⟨a,b,c,d,q,I,g,u,m,B⟩ G W K q1 J p k 0 [] [] [] 0 xs cm V),
  .inr (.inl ⟨Z,⟨p,p.length,3,xs⟩,s,Z,g1,hq,λh=>?_⟩)⟩
 refine⟨Ww,g1,aal _,s,false,T0,λ_ => .inr (.inr (.inr (.inl ⟨Z,e0,M,by show s.length+1+cz p<=340;omega,⟨_,_,oA A,λhf=>?_⟩,h Z⟩)))⟩;have:=m2 hf;rw[<- this]
def Nj(pr:L Ty×Bool)(S:bE)(G:Int)(V:L UInt8)(args:L Nd)(A:iV args)(types s:L Ty)(r:L Ty×Bool)(hf:br 65 args=some types)(C:cD s S.st)(Q:s.length+cz args<=339)(U:S.fr.length<=1099511627776)(D:dB 65 args (bS args) types s=(r,0)):aW G V 65 args S/\Comes pr S r (aq 65 args S):=by
 obtain⟨a,b,c,d,st,fr,g,u,m,B⟩:=S;obtain⟨T,q1,J,p,rfl,rfl⟩:=zR hf cc;obtain⟨g1,E⟩:=Tk A;have O:=bq C;cases s with
 |nil=>cases D
 |cons t s =>
 obtain⟨v,q,rfl,N,hq⟩:=aF C;simp at O Q;have Y:(if cq t=2 then(if(cn (bH p (s,false)) (eB (t::s))).2≠0 then aX (cn (bH p (s,false)) (eB (t::s))).2 else eB s)else aX 5)=(r,0):=D;split at Y;rotate_left;cases Y;rename_i M;split at Y;rename_i W;exact absurd (aaZ Prod.snd Y) W;rename_i W;simp at W;cases Y;obtain⟨K,P⟩:=kI (a:=bH p (s,false)) (b:=eB (t::s)) (r:=(cn (bH p (s,false)) (eB (t::s))).1) aaD;obtain⟨m3,I⟩:=kJ (a:=bH p (s,false)) (b:=eB (t::s)) (r:=(cn (bH p (s,false)) (eB (t::s))).1) aaD;have H:=I Z;rw[H]at P;have e:aq 65 [.mk 3 T q1 J p] ⟨a,b,c,d,v::q,fr,g,u,m,B⟩=(0,{qv ⟨a,b,c,d,q,fr,g,u,m,B⟩ p 4 []with st:=v::q}):=by unfold aq;rfl
 refine⟨fj _ _ 2 G 65 V _ [_] q _ cc (by rw[Od];rfl) (by show List.length (v::q)<=_;simp;omega) (Hq ⟨a,b,c,d,q,fr,g,u,m,B⟩ G V T q1 J p v cm U),
  .inr (.inl ⟨Z,⟨p,p.length,4,[]⟩,t::s,Z,g1,⟨N,hq⟩,λh=>?_⟩)⟩
 refine⟨by show(t::s).length+cz p<=340;simp;omega,g1,aal _,t::s,false,Sg,λ_ => .inr (.inr (.inr (.inr ⟨Z,t,s,Z,M,Ww,⟨_,_,oA K,λhf=>?_⟩,h Z⟩)))⟩;have:=P hf;rw[<- this];rfl
def P5(pr:L Ty×Bool)(S:bE)(G:Int)(V:L UInt8)(args:L Nd)(A:iV args)(types s:L Ty)(r:L Ty×Bool)(hf:br 68 args=some types)(C:cD s S.st)(Q:s.length+cz args<=339)(U:S.fr.length<=1099511627776)(D:dB 68 args (bS args) types s=(r,0)):aW G V 68 args S/\Comes pr S r (aq 68 args S):=by
 obtain⟨a,b,c,d,st,I,g,u,m,B⟩:=S;obtain⟨T,q1,J,p,rfl,rfl⟩:=zR hf cc;obtain⟨g1,N⟩:=Tk A;have O:=bq C;cases s with
 |nil=>cases D
 |cons t s =>
 obtain⟨v,q,rfl,P,hq⟩:=aF C;simp at O Q;have Y:(if(bH p (s,false)).2≠0 then aX (bH p (s,false)).2 else if(bH p (s,false)).1.2=true then aX 1 else eB (t::(bH p (s,false)).1.1))=(r,0):=D;split at Y;rename_i W;exact absurd (aaZ Prod.snd Y) W;rename_i W;simp at W;split at Y;cases Y;cases Y;have e:aq 68 [.mk 3 T q1 J p] ⟨a,b,c,d,v::q,I,g,u,m,B⟩=(0,dh ⟨a,b,c,d,q,I,g,u,m,B⟩ p 1 [v]):=by unfold aq;rfl
 refine⟨fj _ _ 2 G 68 V _ [_] q _ cc (by rw[Oe];rfl) (by show List.length (v::q)<=_;simp;omega) (Kh ⟨a,b,c,d,q,I,g,u,m,B⟩ G V T q1 J p v cm U),
  .inr (.inl ⟨Z,⟨p,0,1,[v]⟩,s,Z,g1,hq,λh=>?_⟩)⟩
 exact⟨Ww,g1,abG _,_,_,oA W,λ_ => .inr (.inl ⟨Z,aal _,[t],⟨P,trivial⟩,h Z⟩)⟩
def Nk(pr:L Ty×Bool)(S:bE)(G:Int)(Y:L UInt8)(args:L Nd)(types s:L Ty)(r:L Ty×Bool)(hf:br 67 args=some types)(I:cD s S.st)(O:s.length+cz args<=339)(W:S.fr.length<=1099511627776)(D:dB 67 args (bS args) types s=(r,0)):aW G Y 67 args S/\Comes pr S r (aq 67 args S):=by
 obtain⟨a,b,c,d,st,fr,g,u,m,B⟩:=S;obtain⟨rfl,rfl⟩:=ct hf cc;have N:=bq I;rcases s with _|⟨U,_|⟨C,s⟩⟩
 cases D;cases D;obtain⟨v,q0,rfl,M,E⟩:=aF I;obtain⟨w,q,rfl,K,hq⟩:=aF E;have A:=bO K.1;simp at N O;have V:(if cq C=14/\cw U (aG C 0)=true then eB (aG C 1::s)else aX 5)=(r,0):=D;split at V;rotate_left;cases V;rename_i J;obtain⟨T,ts⟩:=C;obtain⟨Q,c2⟩:=J;subst Q;obtain⟨t,p,rfl,AY,Jr⟩:=cJ (bl A.1) cc;cases V;have et:U=t:=(eg _ _).1 c2;subst et;obtain⟨H,rfl,P,QA,YZ,Ur⟩:=Of A.2.1 A.2.2;have hmc:=lK P;have e:aq 67 [] ⟨a,b,c,d,v :: .mk 14 0 0 [] [] [U,p] H::q,fr,g,u,m,B⟩=(0,{dh ⟨a,b,c,d,q,fr,g,u,m,B⟩ H 2 q.reverse with st:=[v]}):=by unfold aq;rfl
 refine⟨fj _ _ 2 G 67 Y _ [_,_] q _ cc (by rw[Og];rfl) (by show List.length (v::Vl.mk 14 0 0 [] [] [U,p] H::q)<=_;simp;omega) (Hr ⟨a,b,c,d,q,fr,g,u,m,B⟩ G Y v 14 0 [] [U,p] H 0 [] cm W),
  .inr (.inl ⟨Z,⟨H,0,2,q.reverse⟩,[U],Z,P,⟨M,trivial⟩,λh=>?_⟩)⟩
 refine⟨by show List.length [U]+cz H<=340;simp;omega,P,abG _,_,_,oA QA,λhf => .inr (.inr (.inl ⟨Z,by show q.reverse.length<=340;rw[aaq];omega,p,s,YZ hf,Lw,h Z⟩))⟩
def Ib(pr:L Ty×Bool)(S:bE)(G:Int)(V:L UInt8)(args:L Nd)(A:iV args)(types s:L Ty)(r:L Ty×Bool)(hf:br 66 args=some types)(C:cD s S.st)(hl:s.length+cz args<=339)(U:S.fr.length<=1099511627776)(Q:r.1.all bg=true)(D:dB 66 args (bS args) types s=(r,0)):aW G V 66 args S/\Comes pr S r (aq 66 args S):=by
 obtain⟨a,b,c,d,q,I,g,u,m,B⟩:=S;have N:=xM A;obtain⟨x,y,T,q1,J,p,rfl,hx,hy,rfl⟩:=Tj hf cc;obtain⟨g1,gz⟩:=nh A (show Nd.mk 3 T q1 J p∈_ from abN _ (abN _ (acY ..)));have M:=bq C;simp only at C M;have Y:(if iB p=true then aX 5 else if(cn (bH p ([(aO x).1],false)) (eB [(aO y).1])).2≠0 then aX (cn (bH p ([(aO x).1],false)) (eB [(aO y).1])).2 else eB (.mk 14 [(aO x).1,(aO y).1]::s))=(r,0):=by obtain⟨kx,nx,px,K,ax⟩:=x;obtain⟨ky,ny,py,H,ay⟩:=y;exact D
 split at Y;cases Y;rename_i E;split at Y;rename_i W;exact absurd (aaZ Prod.snd Y) W;rename_i W;simp at W;cases Y;obtain⟨P,O⟩:=kI (a:=bH p ([(aO x).1],false)) (b:=eB [(aO y).1]) (r:=(cn (bH p ([(aO x).1],false)) (eB [(aO y).1])).1) aaD;obtain⟨m3,m4⟩:=kJ (a:=bH p ([(aO x).1],false)) (b:=eB [(aO y).1]) (r:=(cn (bH p ([(aO x).1],false)) (eB [(aO y).1])).1) aaD;have hr:=m4 Z;rw[hr]at O;simp only[aM,bR]at N;have K:bp (aO x).1<=1000000:=by
  rcases uT x with ⟨t,h1,_,_,h4⟩|h1
  grind;rw[h1];decide
 have H:bp (aO y).1<=1000000:=by
  rcases uT y with ⟨t,h1,_,_,h4⟩|h1
  grind;rw[h1];decide
 have gx:bg (aO x).1=true:=er (bw Q) _ c9;have e:aq 66 [x,y,.mk 3 T q1 J p] ⟨a,b,c,d,q,I,g,u,m,B⟩=aQ ⟨a,b,c,d,q,I,g,u,m,B⟩ [.mk 14 0 0 [] [] [(aO x).1,(aO y).1] p]:=by unfold aq;rfl
 have hv:bz (.mk 14 0 0 [] [] [(aO x).1,(aO y).1] p) (.mk 14 [(aO x).1,(aO y).1])=true/\ey (.mk 14 0 0 [] [] [(aO x).1,(aO y).1] p)=true:=by
  constructor;unfold bz;simp[bX,cq,aG,aK,(eg _ _).2 rfl];rw[Cy 14 0 0 [] [] _ _ p rfl];rw[Oi g1 Z,if_neg c9,if_pos (by simp[gx])];simp only[cy,aak,Bool.or_eq_true,Bool.not_eq_true'];refine⟨⟨by first|exact P|exact aam P,?_⟩,by simpa using E⟩;cases hb:(bH p ([(aO x).1],false)).1.2 with
  |true=>exact .inl Z
  |false =>
   right;rw[<- O hb];exact(om _ _).2 Z
 unfold aW;rw[e]
 exact⟨fj _ _ 2 G 66 V _ [] q _ cc (by rw[Oh];rfl) cm (DA ⟨a,b,c,d,q,I,g,u,m,B⟩ G V x y T q1 J p bn bn (by simp only[aE,aB,aU,aab];omega) cm U),
  .inl (bP (S:=⟨a,b,c,d,q,I,g,u,m,B⟩) (dJ (bw Q) hv) C)⟩
def CI(pr:L Ty×Bool)(P:Int)(S:bE)(E:mR S.self S.gC S.gD S.balance=true)(u:0<=S.aZ/\S.aZ<=bF)(G:Int)(Y:L UInt8)(args:L Nd)(A:iV args)(types s:L Ty)(r:L Ty×Bool)(hf:br P args=some types)(C:cD s S.st)(V:s.length+cz args<=339)(W:S.fr.length<=1099511627776)(Q:r.1.all bg=true)(D:lD P args (bS args) types s=(r,0)):aW G Y P args S/\Comes pr S r (aq P args S):=by
 have B:aM args<=8589934593:=abJ (xM A) bn;have U:s.length<=340:=by omega
 have hP:¬P<40:=by intro h;unfold br at hf;rw[if_pos (.inl h)]at hf;cases hf
 have st:∀{p q:Prop},aW G Y P args S/\bG S r (aq P args S)->aW G Y P args S/\Comes pr S r (aq P args S):=λh=>⟨h.1,.inl h.2⟩;unfold lD at D;by_cases O:P<=44;rw[if_pos O]at D;exact st (p:=True) (q:=True) (Nl P bn S G Y args types s r hf C U D);rw[if_neg O]at D;by_cases M:P=45;rw[if_pos M]at D;subst M;exact st (p:=True) (q:=True) (Nm S G Y args B types s r hf C U Q D);rw[if_neg M]at D;by_cases N:P<=58;rw[if_pos N]at D;by_cases T:P=52;subst T;exact H8 pr S G Y args A types s r hf C V W D;by_cases H:P=55;subst H;exact H9 pr S G Y args A types s r hf C V W D;by_cases d3:P=58;subst d3;exact Ia pr S G Y args A types s r hf C V W D;exact st (p:=True) (q:=True) (EZ P bn S G Y args B (bS args) types s r hf C U Q D);rw[if_neg N]at D;by_cases c4:P<=63;rw[if_pos c4]at D;by_cases T:P=60;subst T;exact Ni pr S G Y args A types s r hf C V W D;exact st (p:=True) (q:=True) (KL P bn S G Y args B (bS args) types s r hf C U Q D);rw[if_neg c4]at D;by_cases K:P<=68
 ·rw[if_pos K]at D;rcases(show P=64\/P=65\/P=66\/P=67\/P=68 by omega)with rfl|rfl|rfl|rfl|rfl
  exact Tl pr S G Y args A types s r hf C V W D;exact Nj pr S G Y args A types s r hf C V W D;exact Ib pr S G Y args A types s r hf C V W Q D;exact Nk pr S G Y args types s r hf C V W D;exact P5 pr S G Y args A types s r hf C V W D
 rw[if_neg K]at D;by_cases J:P<=72\/P>=93
 ·rw[if_pos J]at D;have:P<=95:=by apply abH;intro h;unfold dV at D;rw[if_neg bn,if_neg bn,if_neg bn,if_pos bn]at D;cases D
  exact st (p:=True) (q:=True) (EY P bn S G Y args B (bS args) types s r hf C U Q D)
 rw[if_neg J]at D;by_cases I:P<=83;rw[if_pos I]at D;by_cases T:P=83;subst T;have h:=Nn S G Y args types s r hf C U D;exact⟨h.1,.inr (.inr h.2)⟩;exact st (p:=True) (q:=True) (M9 P bn S G Y args B (bS args) types s r hf C U Q D);rw[if_neg I]at D;exact st (p:=True) (q:=True) (KK P bn S E u G Y args B (bS args) types s r hf C U Q D)
def Bn(S S':bE):Prop:=S'.self=S.self/\S'.gC=S.gC/\S'.gD=S.gD/\S'.balance=S.balance/\S'.nV=S.nV/\S'.used=S.used
def No(S:bE)(l:L Vl):Bn S (aQ S l).2/\(aQ S l).2.aZ=S.aZ:=⟨⟨Z,Z,Z,Z,Z,Z⟩,Z⟩
def DP{c:Prop}[Decidable c]{Q:MR->Prop}{a b:MR}(h1:Q a)(h2:Q b):Q (if c then a else b):=by grind
def KM(S:bE)(o:MR):Prop:=Bn S o.2/\o.2.aZ=S.aZ
def ve(S:bE)(l:L Vl):KM S (aQ S l):=No S l
def vf(S S':bE)(e:Int)(h:Bn S S'/\S'.aZ=S.aZ):KM S (e,S'):=h
def Tm(P:Int)(args:L Nd)(l:L Vl)(S:bE):KM S (RG P args l S):=by repeat' (first|exact ve _ _|exact vf _ _ _ ⟨⟨rfl,rfl,rfl,rfl,rfl,rfl⟩,rfl⟩|refine DP ?_ ?_)
def P6(P:Int)(args:L Nd)(l:L Vl)(S:bE):KM S (L2 P args l S):=by repeat' (first|exact ve _ _|exact vf _ _ _ ⟨⟨rfl,rfl,rfl,rfl,rfl,rfl⟩,rfl⟩|refine DP ?_ ?_)
def KR(P:Int)(args:L Nd)(l:L Vl)(S:bE):KM S (yu P args l S):=by
 unfold yu;have h1:∀(c:L Nd)(f:Int)(a:L Vl)(q:L Vl),KM S (aQ (dh S c f a) q):=λc f a q=>⟨⟨Z,Z,Z,Z,Z,Z⟩,Z⟩;cases di (lV l 0)<;>dsimp only <;>
 repeat' (first|exact h1 _ _ _ _|exact ve _ _|exact vf _ _ _ ⟨⟨Z,Z,Z,Z,Z,Z⟩,Z⟩|refine DP ?_ ?_)
def P7(P:Int)(args:L Nd)(l:L Vl)(S:bE):KM S (zS P args l S):=by
 unfold zS;cases di (lV l 1)<;>dsimp only <;>
 repeat' (first|exact ve _ _|exact vf _ _ _ ⟨⟨Z,Z,Z,Z,Z,Z⟩,Z⟩|refine DP ?_ ?_)
def Np(P:Int)(l:L Vl)(S:bE):KM S (vw P l S):=by
 unfold vw;dsimp only
 repeat' (first|exact ve _ _|exact vf _ _ _ ⟨⟨Z,Z,Z,Z,Z,Z⟩,Z⟩|refine DP ?_ ?_)
def Tn(P:Int)(args:L Nd)(l:L Vl)(S:bE):KM S (Fh P args l S):=by
 unfold Fh;dsimp only
 repeat' (first|exact ve _ _|exact vf _ _ _ ⟨⟨Z,Z,Z,Z,Z,Z⟩,Z⟩|refine DP ?_ ?_)
def P8(P:Int)(args:L Nd)(l:L Vl)(S:bE):Bn S (zT P args l S).2/\((zT P args l S).2.aZ=S.aZ\/P=84/\S.aZ<=bF-vN (lV l 1)/\(zT P args l S).2.aZ=S.aZ+vN (lV l 1)):=by
 have M:∀{o:MR},KM S o->Bn S o.2/\(o.2.aZ=S.aZ\/P=84/\S.aZ<=bF-vN (lV l 1)/\o.2.aZ=S.aZ+vN (lV l 1)):=λh=>⟨h.1,.inl h.2⟩;unfold zT;dsimp only;by_cases c:P=84;subst c;rw[if_neg cc,if_neg cc,if_neg cc,if_neg cc,if_pos rfl];by_cases p:vN (lV l 1)=0;rw[if_pos p];exact M (ve _ _);rw[if_neg p];by_cases H:S.aZ>bF-vN (lV l 1);rw[if_pos H];exact M (vf _ _ _ ⟨⟨Z,Z,Z,Z,Z,Z⟩,Z⟩);rw[if_neg H];exact⟨⟨Z,Z,Z,Z,Z,Z⟩,.inr ⟨Z,bn,Z⟩⟩;rw[if_neg (c:=P=84) c];refine M ?_
 repeat' (first|exact ve _ _|exact vf _ _ _ ⟨⟨Z,Z,Z,Z,Z,Z⟩,Z⟩|refine DP ?_ ?_)
def Fi(P:Int)(args:L Nd)(l:L Vl)(S:bE):Bn S (sN P args l S).2/\((sN P args l S).2.aZ=S.aZ\/P=84/\S.aZ<=bF-vN (lV l 1)/\(sN P args l S).2.aZ=S.aZ+vN (lV l 1)):=by have M:∀{o:MR},KM S o->Bn S o.2/\(o.2.aZ=S.aZ\/P=84/\S.aZ<=bF-vN (lV l 1)/\o.2.aZ=S.aZ+vN (lV l 1)):=λh=>⟨h.1,.inl h.2⟩;unfold sN;by_cases p:P<=44;rw[if_pos p];exact M (Tm ..);rw[if_neg p];by_cases H:P<=56/\P≠52/\P≠55;rw[if_pos H];exact M (P6 ..);rw[if_neg H];by_cases Y:P=52\/P=55\/P=58\/P=60\/64<=P/\P<=68;rw[if_pos Y];exact M (KR ..);rw[if_neg Y];by_cases c4:P<=63;rw[if_pos c4];exact M (P7 ..);rw[if_neg c4];by_cases W:P<=72\/P>=93;rw[if_pos W];exact M (Np ..);rw[if_neg W];by_cases V:P<=83;rw[if_pos V];exact M (Tn ..);rw[if_neg V];exact P8 ..
def To(P:Int)(args:L Nd)(S:bE)(types s:L Ty)(r:L Ty×Bool)(u:0<=S.aZ/\S.aZ<=bF)(I:cD s S.st)(hf:br P args=some types)(D:lD P args (bS args) types s=(r,0)):Bn S (aq P args S).2/\0<=(aq P args S).2.aZ/\(aq P args S).2.aZ<=bF/\S.aZ<=(aq P args S).2.aZ:=by
 unfold aq;cases A:iQ (bD P) S.st with
 |none=>exact⟨⟨Z,Z,Z,Z,Z,Z⟩,u.1,u.2,adQ _⟩
 |some W =>
  obtain⟨l,q⟩:=W;obtain⟨h1,h2⟩:=Fi P args l {S with st:=q};refine⟨h1,?_⟩;simp only at h2 ⊢;rcases h2 with h2|⟨rfl,h2,V⟩
  omega;rw[V];have O:0<=vN (lV l 1):=by
   have Y:gd 84 types s=(r,0):=D;rcases s with _|⟨U,_|⟨C,s⟩⟩
   cases Y;cases Y;obtain⟨v,G,B,p,E⟩:=aF I;obtain⟨w,q1,rfl,Q,hq⟩:=aF E;rw[B]at A;have N:l=[v,w]:=(by have M:some ([v,w],q1)=some (l,q):=A;cases M;rfl);subst N;have H:(if cq C=4/\eJ U=true then eB (.mk 9 [.mk 15 [U]]::s)else aX 5)=(r,0):=Y;split at H;rename_i c4;have K:=bO Q.1;obtain⟨T,ts⟩:=C;have:T=4:=c4.1;subst this;obtain⟨n,rfl,O⟩:=fh (.inr (.inr (.inl rfl))) K.2.1;have J:=(MY O).2.2.1 Z;exact J.1;cases H
  omega
def jL(S:bE)(F:gB)(t:List gB):MR :=
 if F.fin=1 then(0,{S with st:=F.aside.reverse++S.st,fr:=t})
 else if F.fin=2 then(match S.st with
  |[]=>(14,S)
  |v::_=>(0,{S with st:=v::F.aside.reverse,fr:=t}))
 else if F.fin=3 then(match F.aside with
  |[]=>(0,{S with fr:=t})
  |x::q=>if S.nV<=S.used then(12,S)else(0,{S with st:=x::S.st,fr:=⟨F.code,0,3,q⟩::t,used:=S.used+1}))
 else if F.fin=4 then(match S.st with
  |[]=>(14,S)
  |v::q=>if vN v=1 then(if S.nV<=S.used then(12,{S with st:=q})else(0,{S with st:=q,fr:=⟨F.code,0,4,F.aside⟩::t,used:=S.used+1}))else(0,{S with st:=q,fr:=t}))
 else(0,{S with fr:=t})
def js:Nat->bE->MR
 |0,S=>(12,S)
 |k+1,S=>match S.fr with
  |[]=>(0,S)
  |F::t=>if F.pos=F.code.length then(if(jL S F t).1=0 then js k (jL S F t).2 else jL S F t)
   else match F.code[F.pos]? with
    |none=>(14,S)
    |some (.mk u N P s args) =>
     if u=3 then js k (dh (fU S F t) args 0 [])
     else if u≠2 then(14,fU S F t)
     else if S.nV<=S.used then(12,fU S F t)
     else if(aq P args {fU S F t with used:=S.used+1}).1=0 then js k (aq P args {fU S F t with used:=S.used+1}).2 else aq P args {fU S F t with used:=S.used+1}
structure MT(pr:List Ty×Bool)(S:bE)(s:List Ty):Prop where
 fit:cD s S.st
 ft:FT pr S.fr s
 env:mR S.self S.gC S.gD S.balance=true
 RJ:0<=S.aZ/\S.aZ<=bF
 used:0<=S.used/\S.used<=S.nV
 nV:S.nV<=1000000
def left(S:bE):Nat:=(S.nV-S.used).toNat*900+wz S.fr
def DQ(S S':bE):Prop:=S'.self=S.self/\S'.gC=S.gC/\S'.gD=S.gD/\S'.balance=S.balance/\S'.nV=S.nV
def Nq(pr:L Ty×Bool)(S:bE)(o:MR):Prop :=
 DQ S o.2/\(0<=o.2.used/\o.2.used<=o.2.nV)/\(0<=o.2.aZ/\o.2.aZ<=bF) /\
 ((o.1=0/\∃Y,MT pr o.2 Y/\left o.2<left S)\/o.1=11\/o.1=13\/(o.1=12/\o.2.used=o.2.nV)\/(o.1=10/\vK o.2.said≠0/\aE o.2.said<=25000000))
def KS{l:L Nd}{i:Nat}{x:Nd}(h:l[i]?=some x):cz (l.drop i)=many x+cz (l.drop (i+1)):=by
 have e:l.drop i=x::l.drop (i+1):=by obtain⟨h1,h2⟩:=List.getElem?_eq_some_iff.1 h;rw[acv h1,h2]
 rw[e];rfl
def Tp(l:L Nd)(i:Nat):cz (l.drop i)<=cz l:=by
 induction i generalizing l with
 |zero=>exact aal _
 |succ i S=>cases l with
  |nil=>exact aal _
  |cons x l=>have:=S l;simp only[acW,cz];omega
def xO{c:Prop}[Decidable c]{Q:MR->Prop}{a b:MR}(h1:c->Q a)(h2:¬c->Q b):Q (if c then a else b):=by grind
def Ic(S:bE)(F:gB)(t:List gB)(h:S.fr=F::t)(hf:F.fin=0\/F.fin=1\/F.fin=2\/F.fin=3\/F.fin=4)(C:S.st.length<=500000000)(I:F.fin=1\/F.fin=2->F.aside.length<=500000000)(Y:t.length<=1099511627776)(E:OB S.nV)(G:0<=S.used) :
  hJ 106 S [.ptr 1000002 (0+t.length*4)] (jL S F t):=by
 obtain⟨a,b,c,d,P,D,g,u,m,B⟩:=S;obtain⟨H,V,fin,T⟩:=F;subst h;rcases hf with rfl|rfl|rfl|rfl|rfl
 exact yz ⟨a,b,c,d,P,⟨H,V,0,T⟩::t,g,u,m,B⟩ ⟨H,V,0,T⟩ t Z Z Y;exact Nr a b c d P g u m B H V T t C (I (.inl Z)) Y
 ·cases P with
  |nil=>exact Ie a b c d [] g u m B H V T t Y
  |cons v P =>
   simp at C;cases T with
   |nil=>exact Ig a b c d v P g u m B H V t bn Y
   |cons x q=>exact Ih a b c d v P g u m B H V x q t bn (by have:=I (.inr Z);simp at this;omega) Y
 ·cases T with
  |nil=>exact Ii a b c d P g u m B H V t Y
  |cons x q =>
   show hJ _ _ _ (if g<=u then _ else _:MR);by_cases Q:g<=u;rw[if_pos Q];exact Ij a b c d P g u m B H V x q t Q Y;rw[if_neg Q];exact Ik a b c d P g u m B H V x q t bn E G C Y
 cases P with
 |nil=>exact Il a b c d [] g u m B H V T t c9 Y
 |cons v P =>
  obtain⟨J,K,W,U,p,O,N⟩:=v;simp at C;show hJ _ _ _ (if K=1 then(if g<=u then _ else _)else _:MR);by_cases M:K=1;subst M;rw[if_pos rfl];by_cases Q:g<=u;rw[if_pos Q];exact Im a b c d J W U p O N P g u m B H V T t Q bn Y;rw[if_neg Q];exact Io a b c d J W U p O N P g u m B H V T t bn E G bn Y;rw[if_neg M];exact Ip a b c d J K W U p O N M P g u m B H V T t bn Y
def zf{pr:L Ty×Bool}{S:bE}{s:L Ty}{F:gB}{t:List gB}(hT:MT pr S s)(h:S.fr=F::t)(hp:F.pos=F.code.length):(F.fin=0\/F.fin=1\/F.fin=2\/F.fin=3\/F.fin=4)/\(F.fin=1\/F.fin=2->F.aside.length<=500000000)/\Nq pr S (jL S F t):=by
 obtain⟨C,zU,V,Y,W,U⟩:=hT;obtain⟨a,b,c,d,P,fr,g,u,m,B⟩:=S;obtain⟨H,pos,fin,T⟩:=F;simp only at *;subst h;subst hp;obtain⟨f1,A,f3,s',f',G,D⟩:=zU;simp only at f1 A f3 G D;have e4:(s,false)=(s',f'):=by unfold um at G;rw[pJ]at G;simp only[bH,acZ,adi]at G;rw[acZ];exact G
 simp only[acZ]at e4;obtain⟨rfl,rfl⟩:=e4;have g0:=lK A;have Q:wz (⟨H,H.length,fin,T⟩::t)=1+wz t:=by simp only[wz,VA,pJ,cz]
 have hz:cz (H.drop 0)=cz H:=rfl;rcases D rfl with ⟨rfl,k⟩|⟨rfl,k0,w,J,k⟩|⟨rfl,k0,t0,w,J,I,k⟩|⟨rfl,e,J,I,⟨O,N,M,K⟩,k⟩|⟨rfl,a0,p,J,I,M,⟨O,N,K,k5⟩,k⟩
 refine⟨.inl rfl,(λh=>by rcases h with h|h<;>cases h),⟨rfl,rfl,rfl,rfl,rfl⟩,W,Y,.inl ⟨rfl,s,⟨C,k,V,Y,W,U⟩,?_⟩⟩;show left ⟨a,b,c,d,P,t,g,u,m,B⟩<left ⟨a,b,c,d,P,⟨H,H.length,0,T⟩::t,g,u,m,B⟩;simp only[left,Q];omega;refine⟨.inr (.inl Z),λ_=>by omega,⟨Z,Z,Z,Z,Z⟩,W,Y,.inl ⟨Z,w++s,⟨uo J C,k,V,Y,W,U⟩,?_⟩⟩;show left ⟨a,b,c,d,T.reverse++P,t,g,u,m,B⟩<left ⟨a,b,c,d,P,⟨H,H.length,1,T⟩::t,g,u,m,B⟩;simp only[left,Q];omega;refine⟨.inr (.inr (.inl Z)),λ_=>by omega,?_⟩;subst J;obtain⟨v,q,rfl,hv,hq⟩:=aF C;refine⟨⟨Z,Z,Z,Z,Z⟩,W,Y,.inl ⟨Z,t0::w,⟨⟨hv,I⟩,k,V,Y,W,U⟩,?_⟩⟩;show left ⟨a,b,c,d,v::T.reverse,t,g,u,m,B⟩<left ⟨a,b,c,d,v::q,⟨H,H.length,2,T⟩::t,g,u,m,B⟩;simp only[left,Q];omega
 ·refine⟨.inr (.inr (.inr (.inl rfl))),(λh=>by rcases h with h|h<;>cases h),?_⟩;cases T with
  |nil =>
   refine⟨⟨Z,Z,Z,Z,Z⟩,W,Y,.inl ⟨Z,s,⟨C,k,V,Y,W,U⟩,?_⟩⟩;show left ⟨a,b,c,d,P,t,g,u,m,B⟩<left ⟨a,b,c,d,P,⟨H,H.length,3,[]⟩::t,g,u,m,B⟩;simp only[left,Q];omega
  |cons x q =>
   show Nq pr _ (if g<=u then _ else _:MR);refine xO (λE=>?_) (λE=>?_);exact⟨⟨Z,Z,Z,Z,Z⟩,W,Y,.inr (.inr (.inr (.inl ⟨Z,by show u=g;omega⟩)))⟩;refine⟨⟨Z,Z,Z,Z,Z⟩,⟨ZQ,ZX⟩,Y,.inl ⟨Z,e::s,⟨⟨J x c9,C⟩,?_,V,Y,⟨ZQ,ZX⟩,U⟩,?_⟩⟩;refine⟨by show s.length+1+cz H<=340;exact I,A,abG _,O,N,M,λhf=>?_⟩;have e3:=K hf;rw[e3];refine .inr (.inr (.inr (.inl ⟨Z,e,λy hy=>J y (by simp[hy]),I,⟨O,N,M,K⟩,k⟩)));show left ⟨a,b,c,d,x::P,⟨H,0,3,q⟩::t,g,u+1,m,B⟩<left ⟨a,b,c,d,P,⟨H,H.length,3,x::q⟩::t,g,u,m,B⟩;simp only[left,Q];simp only[wz,VA,ack];omega
 refine⟨.inr (.inr (.inr (.inr rfl))),(λh=>by rcases h with h|h<;>cases h),?_⟩;subst J;obtain⟨v,q,rfl,hv,hq⟩:=aF C;show Nq pr _ (if vN v=1 then(if g<=u then _ else _)else _:MR);refine xO (λhn=>xO (λE=>?_) (λE=>?_)) (λhn=>?_);exact⟨⟨Z,Z,Z,Z,Z⟩,W,Y,.inr (.inr (.inr (.inl ⟨Z,by show u=g;omega⟩)))⟩;refine⟨⟨Z,Z,Z,Z,Z⟩,⟨ZQ,ZX⟩,Y,.inl ⟨Z,p,⟨hq,?_,V,Y,⟨ZQ,ZX⟩,U⟩,?_⟩⟩;refine⟨M,A,abG _,O,N,K,λhf => .inr (.inr (.inr (.inr ⟨Z,a0,p,k5 hf,I,M,⟨O,N,K,k5⟩,k⟩)))⟩;show left ⟨a,b,c,d,q,⟨H,0,4,T⟩::t,g,u+1,m,B⟩<left ⟨a,b,c,d,v::q,⟨H,H.length,4,T⟩::t,g,u,m,B⟩;simp only[left,Q];simp only[wz,VA,ack];omega;refine⟨⟨Z,Z,Z,Z,Z⟩,W,Y,.inl ⟨Z,p,⟨hq,k,V,Y,W,U⟩,?_⟩⟩;show left ⟨a,b,c,d,q,t,g,u,m,B⟩<left ⟨a,b,c,d,v::q,⟨H,H.length,4,T⟩::t,g,u,m,B⟩;simp only[left,Q];omega
def Jq{n:Nd}{l:L Nd}{s Y:L Ty}{N:Bool}(h:um (n::l) s Y N):∃r,eX n s=(r,0)/\r.1.length<=40/\r.1.all bg=true/\bH l r=((Y,N),0):=by unfold um at h;simp only[bH]at h;rw[if_neg cc]at h;split at h;rename_i c;exact absurd (aaZ Prod.snd h) c;rename_i c;simp at c;obtain⟨h1,h2,U,P⟩:=rE c;grind
def B6{pr:L Ty×Bool}{F:gB}{t:List gB}{s:L Ty}{n:Nd}(h:FT pr (F::t) s)(O:F.code[F.pos]?=some n):∃r,eX n s=(r,0)/\r.1.all bg=true/\(r.2=false->FT pr ({F with pos:=F.pos+1}::t) r.1)/\n∈F.code:=by
 obtain⟨V,A,p,Y,N,Q,W⟩:=h;obtain⟨H,q⟩:=List.getElem?_eq_some_iff.1 O;have e:F.code.drop F.pos=n::F.code.drop (F.pos+1):=by rw[acv H,q]
 rw[e]at Q;obtain⟨r,h1,h2,U,P⟩:=Jq Q;refine⟨r,h1,U,λT=>?_,aap O⟩;have g0:=lK A;refine⟨by show r.1.length+cz F.code<=340;omega,A,by show F.pos+1<=F.code.length;omega,Y,N,?_,W⟩;show bH (F.code.drop (F.pos+1)) (r.1,false)=_;grind
def KT{pr:L Ty×Bool}{S:bE}{s:L Ty}{F:gB}{t:List gB}{N P:Int}{W:L UInt8}{args:L Nd}(q:MT pr S s)(h:S.fr=F::t)(O:F.code[F.pos]?=some (.mk 3 N P W args)):DQ S (dh (fU S F t) args 0 [])/\MT pr (dh (fU S F t) args 0 []) s/\left (dh (fU S F t) args 0 [])<left S:=by obtain⟨C,Y,u,V,U,T⟩:=q;rw[h]at Y;have Q:=Y;obtain⟨J,A,p,_⟩:=Q;obtain⟨r,h1,h2,M,K⟩:=B6 Y O;obtain⟨g1,I⟩:=nh A K;simp only[eX,if_true]at h1;refine⟨⟨rfl,rfl,rfl,rfl,rfl⟩,⟨C,?_,u,V,U,T⟩,?_⟩;exact H7 (r:=r) (by rw[h1]) (λ_=>by rw[h1]) bn g1 M;have e:=KS O;simp only[many]at e;show left {fU S F t with fr:=⟨args,0,0,[]⟩::{F with pos:=F.pos+1}::t}<left S;simp only[left];rw[h];simp only[wz,VA,ack];omega
def F1{pr:L Ty×Bool}{S:bE}{s:L Ty}{F:gB}{t:List gB}{N P:Int}{V:L UInt8}{args:L Nd}(hT:MT pr S s)(h:S.fr=F::t)(q:F.code[F.pos]?=some (.mk 2 N P V args))(hg:S.used<S.nV)(hW:left S<=1000000000) :
  aW N V P args {fU S F t with used:=S.used+1}/\Nq pr S (aq P args {fU S F t with used:=S.used+1})/\(aq P args {fU S F t with used:=S.used+1}).1≠12:=by
 obtain⟨C,U,B,A,kQ,p⟩:=hT;rw[h]at U;have Tq:=U;obtain⟨f1,f2,f3,_⟩:=Tq;obtain⟨r,h1,h2,h3,h4⟩:=B6 U q;obtain⟨g1,g2⟩:=nh f2 h4;have T:=yx S.fr;have Q:left S=(S.nV-S.used).toNat*900+wz S.fr:=rfl;rw[h]at T Q;simp only[aaa]at T;simp only[eX]at h1;rw[if_neg cc,if_neg cc]at h1;cases hf:br P args with
 |none=>rw[hf]at h1;cases h1
 |some types =>
 rw[hf]at h1;have rC:lD P args (bS args) types s=(r,0):=h1;obtain⟨k1,k2⟩:=CI pr P {fU S F t with used:=S.used+1} B A N V args g1 types s r hf C bn (by show({F with pos:=F.pos+1}::t).length<=_;simp only[aaa];omega) h2 rC;obtain⟨⟨q1,O,M,K,Y,W⟩,J,I,m3⟩:=To P args {fU S F t with used:=S.used+1} types s r A C hf rC;refine⟨k1,?_,by rcases k2 with (⟨u,_⟩|u|u)|⟨u,_⟩|⟨u,_⟩<;>rw[u]<;>decide⟩;generalize aq P args {fU S F t with used:=S.used+1}=o at *;simp only at q1 O M K Y W;have E:0<=o.2.used/\o.2.used<=o.2.nV:=by rw[Y,W];omega
 have Wx:mR o.2.self o.2.gC o.2.gD o.2.balance=true:=by rw[q1,O,M,K];exact B
 refine⟨⟨q1,O,M,K,Y⟩,E,⟨J,I⟩,?_⟩;have e:=KS q;simp only[many]at e;rcases k2 with (⟨u,D,H,G⟩|u|u)|⟨u,F2,s2,D,H,G,o5⟩|⟨u,D⟩
 refine .inl ⟨u,r.1,⟨H,by rw[D];exact h3 G,Wx,⟨J,I⟩,E,by rw[Y];exact p⟩,?_⟩;rw[Q];simp only[left,Y,W,D];simp only[wz,VA];omega;exact .inr (.inl u);omega;refine .inl ⟨u,s2,⟨G,by rw[D];exact o5 h3,Wx,⟨J,I⟩,E,by rw[Y];exact p⟩,?_⟩;rw[Q];have g3:=lK H;have g4:=Tp F2.code F2.pos;simp only[left,Y,W,D];simp only[wz,VA];omega;omega
def Tr(pr:L Ty×Bool)(S:bE)(o:MR):Prop :=
 DQ S o.2/\(0<=o.2.used/\o.2.used<=o.2.nV)/\(0<=o.2.aZ/\o.2.aZ<=bF) /\
 ((o.1=0/\o.2.fr=[]/\cD pr.1 o.2.st/\pr.2=false)\/o.1=11\/o.1=13\/(o.1=12/\o.2.used=o.2.nV)\/(o.1=10/\vK o.2.said≠0/\aE o.2.said<=25000000))
def KU{S T U:bE}(h1:DQ S T)(h2:DQ T U):DQ S U:=by obtain⟨W,B,Y,Q,N⟩:=h1;obtain⟨p,M,P,V,O⟩:=h2;exact⟨by rw[p,W],by rw[M,B],by rw[P,Y],by rw[V,Q],by rw[O,N]⟩
def Iq{pr:L Ty×Bool}{S T:bE}{o:MR}(h1:DQ S T)(h2:Tr pr T o):Tr pr S o:=⟨KU h1 h2.1,h2.2⟩
def F3{pr:L Ty×Bool}{S:bE}{o:MR}(h:Nq pr S o)(M:o.1≠0):Tr pr S o:=by obtain⟨h1,h2,U,P⟩:=h;exact⟨h1,h2,U,P.elim (λh=>absurd h.1 M) .inr⟩
def td(pr:L Ty×Bool):∀(k:Nat)(S:bE)(s:L Ty),MT pr S s->left S<k->left S<=1000000000->jY k S (js k S)/\Tr pr S (js k S)
 |0,S,s,_,h,_=>absurd h (Nat.not_lt_zero _)
 |k+1,S,s,Y,hk,hW=>by
  have T:=yx S.fr;have eH:=bq Y.fit;have U:=Y.used;have Az:=Y.nV;have H:OB S.nV:=⟨bn,bn⟩;have Ul:left S=(S.nV-S.used).toNat*900+wz S.fr:=rfl;cases W:S.fr with
  |nil =>
   have e:js (k+1) S=(0,S):=(by simp only[js,W]);rw[e];have D:=Y.ft;rw[W]at D;have BF:pr=(s,false):=D;subst BF;exact⟨jY.done W,⟨Z,Z,Z,Z,Z⟩,U,Y.RJ,.inl ⟨Z,W,Y.fit,Z⟩⟩
  |cons F t =>
   rw[W]at T Ul;simp only[aaa]at T;have Q:=Y.ft;rw[W]at Q;obtain⟨f1,f2,f3,_⟩:=Q;have g0:=lK f2;have g1:=xM f2;have I:F.code.length<=8589934593:=by
    have:∀l:L Nd,l.length<=cz l:=by
     intro l
     induction l with
     |nil=>exact aal _
     |cons x l O=>cases x;simp only[aaa,cz,many];omega
    have:=this F.code;omega
   by_cases D:F.pos=F.code.length
   ·obtain⟨J,k2,M⟩:=zf Y W D;have k4:=Ic S F t W J bn k2 bn H U.1;have e:js (k+1) S=if(jL S F t).1=0 then js k (jL S F t).2 else jL S F t:=(by simp only[js,W];rw[if_pos D])
    by_cases q:(jL S F t).1=0
    ·rw[e,if_pos q];obtain⟨G,t2,t3,E⟩:=M;rcases E with ⟨_,A,K,m2⟩|h|h|h|h
     have O:=td pr k _ A K bn bn;exact⟨jY.fin W D bn k4 (λh=>absurd q h) (λ_=>O.1),Iq G O.2⟩;rw[q]at h;cases h;rw[q]at h;cases h;omega;omega
    rw[e,if_neg q];exact⟨jY.fin W D bn k4 (λ_=>rfl) (λh=>absurd h q),F3 M q⟩
   have C:F.pos<F.code.length:=(by omega);have V:F.code[F.pos]?=some F.code[F.pos]:=abe C;generalize F.code[F.pos]=n at V;obtain⟨u,N,P,sg,args⟩:=n
   have e:js (k+1) S=(if u=3 then js k (dh (fU S F t) args 0 [])
    else if u≠2 then(14,fU S F t)
    else if S.nV<=S.used then(12,fU S F t)
    else if(aq P args {fU S F t with used:=S.used+1}).1=0 then js k (aq P args {fU S F t with used:=S.used+1}).2 else aq P args {fU S F t with used:=S.used+1}):=by
    simp only[js,W,V];rw[if_neg D]
   rw[e];by_cases B:u=3;subst B;rw[if_pos rfl];obtain⟨s1,K,m2⟩:=KT Y W V;have O:=td pr k _ s K bn bn;exact⟨jY.seq W V bn I O.1,Iq s1 O.2⟩;rw[if_neg B];have c2:u=2:=(by have Q:=Y.ft;rw[W]at Q;obtain⟨r,h1,_⟩:=B6 Q V;simp only[eX]at h1;rw[if_neg B]at h1;apply abH;intro c;rw[if_pos c]at h1;cases h1);subst c2;rw[if_neg cc];by_cases p:S.nV<=S.used;rw[if_pos p];exact⟨jY.ZY W V bn I p,⟨Z,Z,Z,Z,Z⟩,U,Y.RJ,.inr (.inr (.inr (.inl ⟨Z,by show S.used=S.nV;omega⟩)))⟩;rw[if_neg p];obtain⟨J,M,_⟩:=F1 Y W V bn hW;by_cases q:(aq P args {fU S F t with used:=S.used+1}).1=0
   ·rw[if_pos q];obtain⟨G,t2,t3,E⟩:=M;rcases E with ⟨_,A,K,m2⟩|h|h|h|h
    have O:=td pr k _ A K bn bn;exact⟨jY.step W V bn I bn H U.1 J (λh=>absurd q h) (λ_=>O.1),Iq G O.2⟩;rw[q]at h;cases h;rw[q]at h;cases h;omega;omega
   rw[if_neg q];exact⟨jY.step W V bn I bn H U.1 J (λ_=>rfl) (λh=>absurd h q),F3 M q⟩
end Go.Proofs
