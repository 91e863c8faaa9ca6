/- Run of package run. -/
import Derived.Test.YtdnpapgijbhofaaGreatDoorRunHRt
import Derived.Test.YtdnpapgijbhofaaGreatDoorFitsRt
open Go.Proofs.Tryz
set_option linter.defProp false
set_option maxHeartbeats 0
set_option linter.unusedVariables false
set_option linter.unusedSimpArgs false
set_option maxRecDepth 100000
namespace Go.Proofs
open Go.cB
def lG(c:Int)(st:L Vl)(B:Vl)(g mt:Int):CV := .agg [aA c,.sl 7 (aa st),aA (vK B),aA (vN B),aA (xA B),.str (vS B),.sl 7 (aa (di B)),.sl 2 (aj (GQ B)),.sl 5 (aD (A2 B)),aA g,aA mt]
attribute [local irreducible] AK ai aR bW dG dR
def mCz(S:bE)(b:Nat):L AV:=[.c (aA S.self),.c (aA S.gC),.c (aA S.gD),.c (aA S.balance),.c (.sl 7 (aa S.st)),.gf b 0 4 S.fr.length,.c (aA S.nV),.c (aA S.used),.c (aA S.aZ),
 .c (aA (vK S.said)),.c (aA (vN S.said)),.c (aA (xA S.said)),.c (.str (vS S.said)),.c (.sl 7 (aa (di S.said))),.c (.sl 2 (aj (GQ S.said))),.c (.sl 5 (aD (A2 S.said)))]
def AZ(a b c d g:Int)(H:L Nd)(x:Vl)(q:L Vl)(S':bE)(hq:q.length<=1000000000)(M:S'.st.length<=1000000000)
  (V:b8 85 ⟨a,b,c,d,x::q,[⟨H,0,0,[]⟩],g,0,0,qp⟩ [] (aA 0) S') :
  af 62 [.agg [aA a,aA b,aA c,aA d],.sl 5 (aD H),.sl 7 (aa (x::q)),aA g] (lG 0 S'.st qp S'.used S'.aZ):=by
 have D:=eV x q bn;have W:=jd (x::q) ek;have Y:=jd S'.st.reverse SR;rw[aaq,acB]at Y;have A:∀x,Uq 100027 7 (aa S'.st) x x:=λ_ => .inl Z;refine qn func62 call62 λβ hf=>?_
 repeat' ((fail_if_success (refine ki 3 ?_));first|refine ai.iw Tryz.hX kn Z Z Z Z Z Z Z Z Z Z Z Z Z Z ?_|refine sz ?_|refine zc ?_ ?_|(intro h;first|(cases h;done)|rw[h]|skip)|refine ai.kR kn Z Z Z Z Z Z D Z ?_|refine ai.pZ kn Z Z Z Z Z Z Z W Z ?_)
 refine AK.fQ [(8,8),(3000,20),(3001,14),(3002,18)] [] (env':=[(8,.ptr 8 0),(9,.ptr 3000 0)]) (bs':=[(8,[.c (aA 0),.c (.sl 7 (aa [])),.c (aA 0),.c (aA 0),.c (aA 0),.c (.str []),.c (.sl 7 (aa [])),.c (.sl 2 (aj [])),.c (.sl 5 (aD [])),.c (aA 0),.c (aA 0)]),(3000,mC ⟨a,b,c,d,(x::q),[⟨H,0,0,[]⟩],g,0,0,qp⟩ 3001 3002),(3001,ah (sR (x::q))),(3002,ah (fR [⟨H,0,0,[]⟩]))]) (ts':=[]) (us':=[8,3000,3001,3002]) ce ⟨ce,ce,⟨_,_,Z,Z,dr _⟩,⟨_,_,Z,Z,dr _⟩,trivial⟩ Z ?_
 repeat' ((fail_if_success (refine ki 8 ?_));first|refine sz ?_|refine zc ?_ ?_|(intro h;first|(cases h;done)|rw[h]|skip)|refine s9 ?_ (hq:=V)|refine ai.pZ kn Z Z Z Z Z Z Z Y Z ?_)
 refine AK.B0 100027 7 (aa S'.st) (tail:=[]) (env':=[(8,.ptr 8 0),(9,.ptr 3000 0),(10,.c (aA 0)),(11,.ptr 11 0)]) (ts':=[])
  (bs':=[(8,[.c (aA 0),.c (.sl 7 (aa [])),.c (aA 0),.c (aA 0),.c (aA 0),.c (.str []),.c (.sl 7 (aa [])),.c (.sl 2 (aj [])),.c (.sl 5 (aD [])),.c (aA 0),.c (aA 0)]),(11,[.c (aA 0),.own .exact 7 [],.c (aA 0),.c (aA 0),.c (aA 0),.c (.str []),.own .exact 7 [],.own .exact 2 [],.own .exact 5 [],.c (aA S'.used),.c (aA S'.aZ)]),(3000,mCz S' 200027)]) Z (aba _).symm (fW _) ce ⟨⟨_,Z,tL A _⟩,⟨_,Z,tL A _⟩,⟨_,Z,⟨A _,A _,A _,A _,.inr ⟨_,Z,(az _).symm,Z⟩,tL A _⟩⟩,trivial⟩ Z trivial ?_
 exact dq
def EO(a b c d g:Int)(H:L Nd)(x:Vl)(q:L Vl)(S':bE)(hq:q.length<=1000000000)
  (V:b8 85 ⟨a,b,c,d,x::q,[⟨H,0,0,[]⟩],g,0,0,qp⟩ [] (aA 10) S') :
  af 62 [.agg [aA a,aA b,aA c,aA d],.sl 5 (aD H),.sl 7 (aa (x::q)),aA g] (lG 10 [] S'.said S'.used 0):=by
 have D:=eV x q bn;have Y:=jd (x::q) ek;refine qn func62 call62 λβ hf=>?_
 repeat' ((fail_if_success (refine ki 3 ?_));first|refine ai.iw Tryz.hX kn Z Z Z Z Z Z Z Z Z Z Z Z Z Z ?_|refine sz ?_|refine zc ?_ ?_|(intro h;first|(cases h;done)|rw[h]|skip)|refine ai.kR kn Z Z Z Z Z Z D Z ?_|refine ai.pZ kn Z Z Z Z Z Z Z Y Z ?_)
 refine AK.fQ [(8,8),(3000,20),(3001,14),(3002,18)] [] (env':=[(8,.ptr 8 0),(9,.ptr 3000 0)]) (bs':=[(8,[.c (aA 0),.c (.sl 7 (aa [])),.c (aA 0),.c (aA 0),.c (aA 0),.c (.str []),.c (.sl 7 (aa [])),.c (.sl 2 (aj [])),.c (.sl 5 (aD [])),.c (aA 0),.c (aA 0)]),(3000,mC ⟨a,b,c,d,(x::q),[⟨H,0,0,[]⟩],g,0,0,qp⟩ 3001 3002),(3001,ah (sR (x::q))),(3002,ah (fR [⟨H,0,0,[]⟩]))]) (ts':=[]) (us':=[8,3000,3001,3002]) ce ⟨ce,ce,⟨_,_,Z,Z,dr _⟩,⟨_,_,Z,Z,dr _⟩,trivial⟩ Z ?_
 repeat' (first|refine sz ?_|refine zc ?_ ?_|(intro h;first|(cases h;done)|rw[h]|skip)|refine s9 ?_ (hq:=V))
 all_goals rfl
def Hw(a b c d g e:Int)(H:L Nd)(x:Vl)(q:L Vl)(S':bE)(hq:q.length<=1000000000)(J:e≠0)(Y:e≠10)
  (V:b8 85 ⟨a,b,c,d,x::q,[⟨H,0,0,[]⟩],g,0,0,qp⟩ [] (aA e) S') :
  af 62 [.agg [aA a,aA b,aA c,aA d],.sl 5 (aD H),.sl 7 (aa (x::q)),aA g] (lG e [] qp S'.used 0):=by
 have D:=eV x q bn;have W:=jd (x::q) ek;have p:(e==0)=false:=beq_eq_false_iff_ne.2 J;have M:(e==10)=false:=beq_eq_false_iff_ne.2 Y;have U:(e != 0)=true:=by simpa using J
 refine qn func62 call62 λβ hf=>?_
 repeat' ((fail_if_success (refine ki 3 ?_));first|refine ai.iw Tryz.hX kn Z Z Z Z Z Z Z Z Z Z Z Z Z Z ?_|refine sz ?_|refine zc ?_ ?_|(intro h;first|(cases h;done)|rw[h]|skip)|refine ai.kR kn Z Z Z Z Z Z D Z ?_|refine ai.pZ kn Z Z Z Z Z Z Z W Z ?_)
 refine AK.fQ [(8,8),(3000,20),(3001,14),(3002,18)] [] (env':=[(8,.ptr 8 0),(9,.ptr 3000 0)]) (bs':=[(8,[.c (aA 0),.c (.sl 7 (aa [])),.c (aA 0),.c (aA 0),.c (aA 0),.c (.str []),.c (.sl 7 (aa [])),.c (.sl 2 (aj [])),.c (.sl 5 (aD [])),.c (aA 0),.c (aA 0)]),(3000,mC ⟨a,b,c,d,(x::q),[⟨H,0,0,[]⟩],g,0,0,qp⟩ 3001 3002),(3001,ah (sR (x::q))),(3002,ah (fR [⟨H,0,0,[]⟩]))]) (ts':=[]) (us':=[8,3000,3001,3002]) ce ⟨ce,ce,⟨_,_,Z,Z,dr _⟩,⟨_,_,Z,Z,dr _⟩,trivial⟩ Z ?_
 repeat' (first|refine sz ?_|refine zc ?_ ?_|(intro h;first|(cases h;done)|rw[h]|skip)|refine s9 ?_ (hq:=V))
 all_goals rfl
def Kl(a b c d g:Int)(H:L Nd)(S':bE)(M:S'.st.length<=1000000000)
  (V:b8 85 ⟨a,b,c,d,[],[⟨H,0,0,[]⟩],g,0,0,qp⟩ [] (aA 0) S') :
  af 62 [.agg [aA a,aA b,aA c,aA d],.sl 5 (aD H),.sl 7 (aa ([])),aA g] (lG 0 S'.st qp S'.used S'.aZ):=by
 have Y:=jd [] (abG _);have W:=jd S'.st.reverse SR;rw[aaq,acB]at W;have A:∀x,Uq 100027 7 (aa S'.st) x x:=λ_ => .inl Z;refine qn func62 call62 λβ hf=>?_
 repeat' ((fail_if_success (refine ki 2 ?_));first|refine ai.iw Tryz.hX kn Z Z Z Z Z Z Z Z Z Z Z Z Z Z ?_|refine sz ?_|refine zc ?_ ?_|(intro h;first|(cases h;done)|rw[h]|skip)|refine ai.xF kn Z Z (jm 7) Z Z (λ_=>⟨_,_,Z,.inr Z,Z⟩) Z Z ?_|refine ai.pZ kn Z Z Z Z Z Z Z Y Z ?_)
 refine AK.empty 20 4 7 [.c (aA a),.c (aA b),.c (aA c),.c (aA d)] _ Z Z Z Z ?_;refine AK.uL 4 [] _ Z (acp _).symm Z ?_
 repeat' ((fail_if_success (refine ki 3 ?_));first|refine sz ?_|refine zc ?_ ?_|(intro h;first|(cases h;done)|rw[h]|skip)|refine ai.pZ kn Z Z Z Z Z Z Z Y Z ?_)
 refine AK.fQ [(8,8),(3000,20),(3001,4),(3002,18)] [] (env':=[(8,.ptr 8 0),(9,.ptr 3000 0)]) (bs':=[(8,[.c (aA 0),.c (.sl 7 (aa [])),.c (aA 0),.c (aA 0),.c (aA 0),.c (.str []),.c (.sl 7 (aa [])),.c (.sl 2 (aj [])),.c (.sl 5 (aD [])),.c (aA 0),.c (aA 0)]),(3000,mC ⟨a,b,c,d,[],[⟨H,0,0,[]⟩],g,0,0,qp⟩ 3001 3002),(3001,ah (sR [])),(3002,ah (fR [⟨H,0,0,[]⟩]))]) (ts':=[]) (us':=[8,3000,3001,3002]) ce ⟨ce,ce,⟨_,_,Z,Z,dr _⟩,⟨_,_,Z,Z,dr _⟩,trivial⟩ Z ?_
 repeat' ((fail_if_success (refine ki 8 ?_));first|refine sz ?_|refine zc ?_ ?_|(intro h;first|(cases h;done)|rw[h]|skip)|refine s9 ?_ (hq:=V)|refine ai.pZ kn Z Z Z Z Z Z Z W Z ?_)
 refine AK.B0 100027 7 (aa S'.st) (tail:=[]) (env':=[(8,.ptr 8 0),(9,.ptr 3000 0),(10,.c (aA 0)),(11,.ptr 11 0)]) (ts':=[])
  (bs':=[(8,[.c (aA 0),.c (.sl 7 (aa [])),.c (aA 0),.c (aA 0),.c (aA 0),.c (.str []),.c (.sl 7 (aa [])),.c (.sl 2 (aj [])),.c (.sl 5 (aD [])),.c (aA 0),.c (aA 0)]),(11,[.c (aA 0),.own .exact 7 [],.c (aA 0),.c (aA 0),.c (aA 0),.c (.str []),.own .exact 7 [],.own .exact 2 [],.own .exact 5 [],.c (aA S'.used),.c (aA S'.aZ)]),(3000,mCz S' 200027)]) Z (aba _).symm (fW _) ce ⟨⟨_,Z,tL A _⟩,⟨_,Z,tL A _⟩,⟨_,Z,⟨A _,A _,A _,A _,.inr ⟨_,Z,(az _).symm,Z⟩,tL A _⟩⟩,trivial⟩ Z trivial ?_
 exact dq
def EP(a b c d g:Int)(H:L Nd)(S':bE)
  (V:b8 85 ⟨a,b,c,d,[],[⟨H,0,0,[]⟩],g,0,0,qp⟩ [] (aA 10) S') :
  af 62 [.agg [aA a,aA b,aA c,aA d],.sl 5 (aD H),.sl 7 (aa ([])),aA g] (lG 10 [] S'.said S'.used 0):=by
 have Y:=jd [] (abG _);refine qn func62 call62 λβ hf=>?_
 repeat' ((fail_if_success (refine ki 2 ?_));first|refine ai.iw Tryz.hX kn Z Z Z Z Z Z Z Z Z Z Z Z Z Z ?_|refine sz ?_|refine zc ?_ ?_|(intro h;first|(cases h;done)|rw[h]|skip)|refine ai.xF kn Z Z (jm 7) Z Z (λ_=>⟨_,_,Z,.inr Z,Z⟩) Z Z ?_|refine ai.pZ kn Z Z Z Z Z Z Z Y Z ?_)
 refine AK.empty 20 4 7 [.c (aA a),.c (aA b),.c (aA c),.c (aA d)] _ Z Z Z Z ?_;refine AK.uL 4 [] _ Z (acp _).symm Z ?_
 repeat' ((fail_if_success (refine ki 3 ?_));first|refine sz ?_|refine zc ?_ ?_|(intro h;first|(cases h;done)|rw[h]|skip)|refine ai.pZ kn Z Z Z Z Z Z Z Y Z ?_)
 refine AK.fQ [(8,8),(3000,20),(3001,4),(3002,18)] [] (env':=[(8,.ptr 8 0),(9,.ptr 3000 0)]) (bs':=[(8,[.c (aA 0),.c (.sl 7 (aa [])),.c (aA 0),.c (aA 0),.c (aA 0),.c (.str []),.c (.sl 7 (aa [])),.c (.sl 2 (aj [])),.c (.sl 5 (aD [])),.c (aA 0),.c (aA 0)]),(3000,mC ⟨a,b,c,d,[],[⟨H,0,0,[]⟩],g,0,0,qp⟩ 3001 3002),(3001,ah (sR [])),(3002,ah (fR [⟨H,0,0,[]⟩]))]) (ts':=[]) (us':=[8,3000,3001,3002]) ce ⟨ce,ce,⟨_,_,Z,Z,dr _⟩,⟨_,_,Z,Z,dr _⟩,trivial⟩ Z ?_
 repeat' (first|refine sz ?_|refine zc ?_ ?_|(intro h;first|(cases h;done)|rw[h]|skip)|refine s9 ?_ (hq:=V))
 all_goals rfl
def Hx(a b c d g e:Int)(H:L Nd)(S':bE)(q:e≠0)(B:e≠10)
  (V:b8 85 ⟨a,b,c,d,[],[⟨H,0,0,[]⟩],g,0,0,qp⟩ [] (aA e) S') :
  af 62 [.agg [aA a,aA b,aA c,aA d],.sl 5 (aD H),.sl 7 (aa ([])),aA g] (lG e [] qp S'.used 0):=by
 have Y:=jd [] (abG _);have p:(e==0)=false:=beq_eq_false_iff_ne.2 q;have M:(e==10)=false:=beq_eq_false_iff_ne.2 B;have W:(e != 0)=true:=by simpa using q
 refine qn func62 call62 λβ hf=>?_
 repeat' ((fail_if_success (refine ki 2 ?_));first|refine ai.iw Tryz.hX kn Z Z Z Z Z Z Z Z Z Z Z Z Z Z ?_|refine sz ?_|refine zc ?_ ?_|(intro h;first|(cases h;done)|rw[h]|skip)|refine ai.xF kn Z Z (jm 7) Z Z (λ_=>⟨_,_,Z,.inr Z,Z⟩) Z Z ?_|refine ai.pZ kn Z Z Z Z Z Z Z Y Z ?_)
 refine AK.empty 20 4 7 [.c (aA a),.c (aA b),.c (aA c),.c (aA d)] _ Z Z Z Z ?_;refine AK.uL 4 [] _ Z (acp _).symm Z ?_
 repeat' ((fail_if_success (refine ki 3 ?_));first|refine sz ?_|refine zc ?_ ?_|(intro h;first|(cases h;done)|rw[h]|skip)|refine ai.pZ kn Z Z Z Z Z Z Z Y Z ?_)
 refine AK.fQ [(8,8),(3000,20),(3001,4),(3002,18)] [] (env':=[(8,.ptr 8 0),(9,.ptr 3000 0)]) (bs':=[(8,[.c (aA 0),.c (.sl 7 (aa [])),.c (aA 0),.c (aA 0),.c (aA 0),.c (.str []),.c (.sl 7 (aa [])),.c (.sl 2 (aj [])),.c (.sl 5 (aD [])),.c (aA 0),.c (aA 0)]),(3000,mC ⟨a,b,c,d,[],[⟨H,0,0,[]⟩],g,0,0,qp⟩ 3001 3002),(3001,ah (sR [])),(3002,ah (fR [⟨H,0,0,[]⟩]))]) (ts':=[]) (us':=[8,3000,3001,3002]) ce ⟨ce,ce,⟨_,_,Z,Z,dr _⟩,⟨_,_,Z,Z,dr _⟩,trivial⟩ Z ?_
 repeat' (first|refine sz ?_|refine zc ?_ ?_|(intro h;first|(cases h;done)|rw[h]|skip)|refine s9 ?_ (hq:=V))
 all_goals rfl
end Go.Proofs
namespace Go.Proofs
open Go.cB
def JA(n:Int):Bool:=bif decide (n>=0)then decide (n<=1152921504606846976)else false
def Jz(n:Int):Bool:=bif decide (n>=0)then decide (n<12)else false
def mR(a b c d:Int):Bool:=bif (bif (bif Jz a then Jz b else false)then JA c else false)then JA d else false
attribute [local irreducible] AK ai aR bW dG dR
def FX(n:Int):af 81 [aA n] (.bool (JA n)):=by
 unfold JA;cases D:decide (n>=0)with
 |false =>
  exact qdq func81 call81
 |true =>
  exact qdq func81 call81
def FY(n:Int):af 82 [aA n] (.bool (Jz n)):=by
 unfold Jz;cases D:decide (n>=0)with
 |false =>
  exact qdq func82 call82
 |true =>
  exact qdq func82 call82
def Bl(a b c d:Int):af 61 [.agg [aA a,aA b,aA c,aA d]] (.bool (mR a b c d)):=by have h1:=FY a;have h2:=FY b;have U:=FX c;have Y:=FX d;unfold mR;generalize Jz a=P at *;generalize Jz b=B at *;generalize JA c=D at *;generalize JA d=x4 at *;cases P;exact qdq func61 call61;cases B;exact qdq func61 call61;cases D;exact qdq func61 call61;exact qdq func61 call61
def ni:L Ty->L Vl->Bool
 |t::s,v::l=>iK t v&&ni s l
 |_,_=>true
def Fk{s:L Ty}{l:L Vl}{j:Nat}{t:Ty}{v:Vl}(h1:s[j]?=some t)(h2:l[j]?=some v):ni (s.drop j) (l.drop j)=(iK t v&&ni (s.drop (j+1)) (l.drop (j+1))):=by rw[cQ h1,cQ h2];rfl
attribute [local irreducible] iq iK
def Vx(a b c d g:Int)(n:Nd)(O:bR n<=8589934593)(s:L Ty)(C:aU s<=8589934593)(l:L Vl)(h:¬((iq n s).2=0/\s.length=l.length/\mR a b c d=true)) :
  af 33 [.agg [aA a,aA b,aA c,aA d],aS n,.sl 2 (aj s),.sl 7 (aa l),aA g] (lG 14 [] qp 0 0):=by
 have h1:=sL n s O C;have h2:=Bl a b c d;have W:=aL s;have B:=az l;generalize mR a b c d=U at *;generalize iq n s=r at *;obtain⟨⟨t,f⟩,e⟩:=r;obtain⟨q,I,T,S,P⟩:=n;simp only at h;by_cases Y:e=0;rotate_left
 ·have p:(e != 0)=true:=by simpa using Y
  clear h h2;exact qdq func33 call33
 subst Y;by_cases V:s.length=l.length;rotate_left
 ·have p:((((aj s).length:Nat):Int) != (((aa l).length:Nat):Int))=true:=by rw[adL];omega
  clear h h2;exact qdq func33 call33
 have p:((((aj s).length:Nat):Int) != (((aa l).length:Nat):Int))=false:=by rw[W,B,V];exact adf _
 cases U with
 |true=>exact absurd ⟨Z,V,Z⟩ h
 |false =>
  clear h;exact qdq func33 call33
def Oj(a b c d g:Int)(n:Nd)(E:bR n<=8589934593)(s:L Ty)(C:aU s<=8589934593)(l:L Vl)(hv:aB l<=8589934593)(D:(iq n s).2=0)(V:s.length=l.length)(hf:mR a b c d=true)(M:Int)(rs:L Vl)(K:Vl)(J I:Int)
  (U:ni s l=true->af 62 [.agg [aA a,aA b,aA c,aA d],.sl 5 (aD (cy n)),.sl 7 (aa l),aA g] (lG M rs K J I)) :
  af 33 [.agg [aA a,aA b,aA c,aA d],aS n,.sl 2 (aj s),.sl 7 (aa l),aA g] (bif ni s l then lG M rs K J I else lG 14 [] qp 0 0):=by
 have h1:=sL n s E C;have h2:=Bl a b c d;have B:=aL s;have A:=az l;have z3:=ga l;rw[hf]at h2;generalize iq n s=r at *;obtain⟨⟨t,f⟩,e⟩:=r;obtain⟨u,p,k3,k4,k5⟩:=n;simp only at D;subst D;have c1:((((aj s).length:Nat):Int) != (((aa l).length:Nat):Int))=false:=by rw[B,A,V];exact adf _
 refine qn func33 call33 λβ hf=>?_
 repeat' (first|refine sz ?_|refine zc ?_ ?_|(intro h;first|(cases h;done)|rw[h]|skip)|refine uC Z h1 ?_|refine uC Z h2 ?_)
 refine AK.dI (α:=Nat) (λj=>j<=l.length/\ni s l=ni (s.drop j) (l.drop j)) (λj=>l.length-j)
  (λj=>[(38,.c (.int .i64 j)),(37,.c (.int .i64 (aa l).length)),(36,.c (.sl 7 (aa l))),(2,.c (.sl 2 (aj s))),(3,.c (.sl 7 (aa l))),(4,.c (aA g)),(5,.ptr 5 0),(6,.ptr 6 0),(10,.ptr 10 0)])
  (λ_=>[(5,[.c (aA a),.c (aA b),.c (aA c),.c (aA d)]),(6,[.c (aA u),.c (aA p),.c (aA k3),.c (.str k4),.c (.sl 5 (aD k5))]),(10,[.c (aA 0),.own .exact 7 [],.c (aA 0),.c (aA 0),.c (aA 0),.c (.str []),.own .exact 7 [],.own .exact 2 [],.own .exact 5 [],.c (aA 0),.c (aA 0)])]) (λ_=>[]) [5,6,10] 0
  ⟨abG _,Z⟩ ce ⟨Z,Z,Z,trivial⟩ trivial Z Z Z ?_
 rintro j ⟨hj,S⟩ jh;rcases eI l j hj with ⟨v,Y,T⟩|H
 ·have UQ:=mh Y;have Q:=bh Y;obtain⟨q,W⟩:∃q,s[j]?=some q:=⟨_,abe bn⟩;have P:=b9 (aap W);have N:=cI T;have hq:=Cz q v bn bn;rw[Fk W Y]at S;have V9:=cY Y;have Wa:=eZ W;clear P N U;obtain⟨x1,x2,x3,x4,x5,x6,x7⟩:=v;obtain⟨y1,y2⟩:=q;cases G:iK (.mk y1 y2) (.mk x1 x2 x3 x4 x5 x6 x7)with
  |false =>
   rw[G]at hq S;rw[abn]at S;rw[S];clear jh;exact dq
  |true =>
   rw[G]at hq S;rw[abq]at S
   repeat' (first|refine sz ?_|refine zc ?_ ?_|(intro h;first|(cases h;done)|rw[h]|skip)|refine uI Z (j) Z (V9) Z ?_|refine uI Z (j) Z (Wa) Z ?_|refine uC Z hq ?_)
   exact AK.again (jh (j+1) ⟨Q,S⟩ bn) ⟨.inl (ff (i:=j) bn),.inl Z,.inl Z,.inl Z,.inl Z,.inl Z,.inl Z,.inl Z,.inl Z,trivial⟩ ⟨Z,Z,Z,trivial⟩ trivial Z Z Z
 have UQ:=jK H;have O:ni s l=true:=by rw[S,H,<- V,aaW,V,aaW];rfl
 have hT':=U O;rw[O];clear jh U;exact dq
end Go.Proofs
namespace Go.Proofs
open Go.cB
def vA{a b c d:Int}(h:mR a b c d=true):(0<=a/\a<12)/\(0<=b/\b<12)/\(0<=c/\c<=bF)/\(0<=d/\d<=bF):=by unfold mR Jz JA at h;simp only[Bool.cond_eq_ite,Bool.if_false_right,aak,abU]at h;unfold bF;omega
def mj{v:Vl}{t:Ty}(h:bz v (.mk 15 [t])=true)(C:ey v=true):∃n a x,v = .mk 15 n a [] [x] [] []/\(1<=n/\n<=bF)/\(0<=a/\a<12)/\bz x t=true/\ey x=true:=by
 obtain⟨k,n,a,s,args,types,H⟩:=v;obtain⟨E,D,_⟩:=jt h;simp only[cq]at E;subst E;simp[bX]at D;simp[bz,bX,cq,aG,aK]at h;obtain⟨rfl,rfl,rfl⟩:=D;rcases args with _|⟨x,_|⟨y,r⟩⟩
 simp at h;simp[aJ,ey,ee]at h C;exact⟨n,a,x,Z,bn,bn,oy,C⟩;simp at h
def uY{n a:Int}{x:Vl}{t:Ty}(O:1<=n/\n<=bF)(W:0<=a/\a<12)(h:bz x t=true/\ey x=true):bz (.mk 15 n a [] [x] [] []) (.mk 15 [t])=true/\ey (.mk 15 n a [] [x] [] [])=true:=by simp[bz,bX,cq,aG,aK,aJ,ey,ee,h,O,W]
def Hy:bD 84=2:=by decide +kernel
def Hz:bD 85=1:=by decide +kernel
def HA:bD 86=2:=by decide +kernel
def HB:bD 87=1:=by decide +kernel
def HC:bD 88=3:=by decide +kernel
def HD:bD 89=0:=by decide +kernel
def HE:bD 90=0:=by decide +kernel
def HF:bD 91=0:=by decide +kernel
def HG:bD 92=0:=by decide +kernel
def MS(S:bE)(W:mR S.self S.gC S.gD S.balance=true)(T:0<=S.aZ/\S.aZ<=bF)(G:Int)(Y:L UInt8)(args:L Nd)(U:aM args<=8589934593)(types s:L Ty)(r:L Ty×Bool)(hf:br 89 args=some types)(C:cD s S.st)(P:s.length<=340)(Q:r.1.all bg=true)(D:gd 89 types s=(r,0)):aW G Y 89 args S/\bG S r (aq 89 args S):=by
 obtain⟨a,b,c,d,q,I,g,u,m,B⟩:=S;obtain⟨rfl,rfl⟩:=ct hf cc;have O:=bq C;simp only at C O W;cases D;have V:=vA W;unfold aW;have e:aq 89 [] ⟨a,b,c,d,q,I,g,u,m,B⟩=aQ ⟨a,b,c,d,q,I,g,u,m,B⟩ [aI 7 a]:=by unfold aq;rw[HD];rfl
 rw[e];exact⟨jn _ _ 2 G 89 Y _ [] q _ cc (by rw[HD];rfl) cm (MU ⟨a,b,c,d,q,I,g,u,m,B⟩ G Y cm),bP (S:=⟨a,b,c,d,q,I,g,u,m,B⟩) (dJ (bw Q) (mF (.inr (.inr (.inr (.inr ⟨Z,V.1⟩)))))) C⟩
def HH(S:bE)(W:mR S.self S.gC S.gD S.balance=true)(T:0<=S.aZ/\S.aZ<=bF)(G:Int)(Y:L UInt8)(args:L Nd)(U:aM args<=8589934593)(types s:L Ty)(r:L Ty×Bool)(hf:br 90 args=some types)(C:cD s S.st)(P:s.length<=340)(Q:r.1.all bg=true)(D:gd 90 types s=(r,0)):aW G Y 90 args S/\bG S r (aq 90 args S):=by
 obtain⟨a,b,c,d,q,I,g,u,m,B⟩:=S;obtain⟨rfl,rfl⟩:=ct hf cc;have O:=bq C;simp only at C O W;cases D;have V:=vA W;unfold aW;have e:aq 90 [] ⟨a,b,c,d,q,I,g,u,m,B⟩=aQ ⟨a,b,c,d,q,I,g,u,m,B⟩ [aI 7 b]:=by unfold aq;rw[HE];rfl
 rw[e];exact⟨jn _ _ 2 G 90 Y _ [] q _ cc (by rw[HE];rfl) cm (HI ⟨a,b,c,d,q,I,g,u,m,B⟩ G Y cm),bP (S:=⟨a,b,c,d,q,I,g,u,m,B⟩) (dJ (bw Q) (mF (.inr (.inr (.inr (.inr ⟨Z,V.2.1⟩)))))) C⟩
def HJ(S:bE)(W:mR S.self S.gC S.gD S.balance=true)(T:0<=S.aZ/\S.aZ<=bF)(G:Int)(Y:L UInt8)(args:L Nd)(U:aM args<=8589934593)(types s:L Ty)(r:L Ty×Bool)(hf:br 91 args=some types)(C:cD s S.st)(P:s.length<=340)(Q:r.1.all bg=true)(D:gd 91 types s=(r,0)):aW G Y 91 args S/\bG S r (aq 91 args S):=by
 obtain⟨a,b,c,d,q,I,g,u,m,B⟩:=S;obtain⟨rfl,rfl⟩:=ct hf cc;have O:=bq C;simp only at C O W;cases D;have V:=vA W;unfold aW;have e:aq 91 [] ⟨a,b,c,d,q,I,g,u,m,B⟩=aQ ⟨a,b,c,d,q,I,g,u,m,B⟩ [aI 5 c]:=by unfold aq;rw[HF];rfl
 rw[e];exact⟨jn _ _ 2 G 91 Y _ [] q _ cc (by rw[HF];rfl) cm (HK ⟨a,b,c,d,q,I,g,u,m,B⟩ G Y cm),bP (S:=⟨a,b,c,d,q,I,g,u,m,B⟩) (dJ (bw Q) (mF (.inr (.inr (.inr (.inl ⟨Z,V.2.2.1⟩)))))) C⟩
def ES(S:bE)(W:mR S.self S.gC S.gD S.balance=true)(T:0<=S.aZ/\S.aZ<=bF)(G:Int)(Y:L UInt8)(args:L Nd)(U:aM args<=8589934593)(types s:L Ty)(r:L Ty×Bool)(hf:br 92 args=some types)(C:cD s S.st)(P:s.length<=340)(Q:r.1.all bg=true)(D:gd 92 types s=(r,0)):aW G Y 92 args S/\bG S r (aq 92 args S):=by
 obtain⟨a,b,c,d,q,I,g,u,m,B⟩:=S;obtain⟨rfl,rfl⟩:=ct hf cc;have O:=bq C;simp only at C O W;cases D;have V:=vA W;unfold aW;have e:aq 92 [] ⟨a,b,c,d,q,I,g,u,m,B⟩=aQ ⟨a,b,c,d,q,I,g,u,m,B⟩ [aI 5 d]:=by unfold aq;rw[HG];rfl
 rw[e];exact⟨jn _ _ 2 G 92 Y _ [] q _ cc (by rw[HG];rfl) cm (ET ⟨a,b,c,d,q,I,g,u,m,B⟩ G Y cm),bP (S:=⟨a,b,c,d,q,I,g,u,m,B⟩) (dJ (bw Q) (mF (.inr (.inr (.inr (.inl ⟨Z,V.2.2.2⟩)))))) C⟩
def HL(S:bE)(H:mR S.self S.gC S.gD S.balance=true)(A:0<=S.aZ/\S.aZ<=bF)(G:Int)(Y:L UInt8)(args:L Nd)(hz:aM args<=8589934593)(types s:L Ty)(r:L Ty×Bool)(hf:br 84 args=some types)(P:cD s S.st)(hl:s.length<=340)(hg:r.1.all bg=true)(D:gd 84 types s=(r,0)):aW G Y 84 args S/\bG S r (aq 84 args S):=by
 obtain⟨a,b,c,d,st,I,g,u,m,B⟩:=S;obtain⟨rfl,rfl⟩:=ct hf cc;have eH:=bq P;simp only at P eH H A;rcases s with _|⟨t1,_|⟨t2,s⟩⟩
 cases D;cases D;obtain⟨v,q0,rfl,hv,oU⟩:=aF P;obtain⟨w,q,rfl,hw,hq⟩:=aF oU;have f1:=bO hv.1;have f2:=bO hw.1;obtain⟨T2,wO⟩:=t2;simp only[aaa]at eH hl;have O:(if T2=4/\eJ t1=true then eB (.mk 9 [.mk 15 [t1]]::s)else aX 5)=(r,0):=D;split at O;rotate_left;cases O;rename_i c1;cases O;obtain⟨rfl,_⟩:=c1;obtain⟨n,rfl,g2⟩:=fh cc f2.2.1;have Q:=iM cc g2;have T:=Q.2 cc;have N:=vA H;unfold aW;have e:aq 84 [] ⟨a,b,c,d,v::aI 4 n::q,I,g,u,m,B⟩=(if n=0 then aQ ⟨a,b,c,d,q,I,g,u,m,B⟩ [bN []]else if m>bF-n then(11,⟨a,b,c,d,q,I,g,u,m,B⟩)else aQ ⟨a,b,c,d,q,I,g,u,m+n,B⟩ [bN [.mk 15 n a [] [v] [] []]]):=by unfold aq;rw[Hy];rfl
 rw[e];have hsz:=hv.2;have qm:=f1.2;obtain⟨J,K,W,C,p,V,U⟩:=v;have E:∀(e:Int)(S':bE),b8 140 ⟨a,b,c,d,q,I,g,u,m,B⟩ [.c (aS (.mk 2 G 84 Y [])),.c (.sl 7 (aa [.mk J K W C p V U,aI 4 n]))] (aA e) S'->b8 109 ⟨a,b,c,d,.mk J K W C p V U::aI 4 n::q,I,g,u,m,B⟩ [.c (aS (.mk 2 G 84 Y []))] (aA e) S':=λe S' h =>
  jn _ _ 2 G 84 Y _ [_,_] q _ cc (by rw[Hy];rfl) (by show List.length (Vl.mk J K W C p V U::aI 4 n::q)<=_;simp only[aaa];omega) h
 by_cases M:n=0;rw[if_pos M];exact⟨E _ _ (Km ⟨a,b,c,d,q,I,g,u,m,B⟩ G Y J K W C p V U 4 n 0 [] [] [] [] M cm),bP (S:=⟨a,b,c,d,q,I,g,u,m,B⟩) (dJ (bw hg) mG) hq⟩;rw[if_neg M];by_cases h1:m>bF-n;rw[if_pos h1];exact⟨E _ _ (Kn ⟨a,b,c,d,q,I,g,u,m,B⟩ G Y J K W C p V U 4 n 0 [] [] [] [] M ⟨T,Q.1.2⟩ h1 cm),.inr (.inl Z)⟩;rw[if_neg h1];exact⟨E _ _ (Ko ⟨a,b,c,d,q,I,g,u,m,B⟩ G Y J K W C p V U 4 n 0 [] [] [] [] M ⟨T,Q.1.2⟩ h1 A.1 bn cm),bP (S:=⟨a,b,c,d,q,I,g,u,m+n,B⟩) (dJ (bw hg) (iy (uY ⟨bn,Q.1.2⟩ N.1 qm))) hq⟩
def MV(S:bE)(hE:mR S.self S.gC S.gD S.balance=true)(hm:0<=S.aZ/\S.aZ<=bF)(G:Int)(Y:L UInt8)(args:L Nd)(hz:aM args<=8589934593)(types s:L Ty)(r:L Ty×Bool)(hf:br 85 args=some types)(C:cD s S.st)(hl:s.length<=340)(Q:r.1.all bg=true)(D:gd 85 types s=(r,0)):aW G Y 85 args S/\bG S r (aq 85 args S):=by
 obtain⟨a,b,c,d,st,I,g,u,m,B⟩:=S;obtain⟨rfl,rfl⟩:=ct hf cc;have P:=bq C;simp only at C P hE hm;cases s with
 |nil=>cases D
 |cons t s =>
 obtain⟨v,q,rfl,N,hq⟩:=aF C;have O:=bO N.1;simp only[aaa]at P hl;obtain⟨T,ts⟩:=t;have W:(if T=15 then eB (.mk 11 [.mk 7 [],.mk 11 [aG (.mk T ts) 0,.mk 4 []]] :: .mk T ts::s)else aX 5)=(r,0):=D;split at W;rotate_left;cases W;rename_i c1;subst c1;obtain⟨t,rfl,AY⟩:=cO (bl O.1) cc;cases W;obtain⟨n,M,x,rfl,K,J,H⟩:=mj O.2.1 O.2.2;have hsz:=N.2;unfold aW;have e:aq 85 [] ⟨a,b,c,d,.mk 15 n M [] [x] [] []::q,I,g,u,m,B⟩=aQ ⟨a,b,c,d,q,I,g,u,m,B⟩ [.mk 15 n M [] [x] [] [],aY (aI 7 M) (aY x (aI 4 n))]:=by unfold aq;rw[Hz];rfl
 rw[e];have V:bz (aY (aI 7 M) (aY x (aI 4 n))) (.mk 11 [.mk 7 [],.mk 11 [t,.mk 4 []]])=true/\ey (aY (aI 7 M) (aY x (aI 4 n)))=true :=
  kj (mF (.inr (.inr (.inr (.inr ⟨Z,J⟩))))) (kj H (mF (.inr (.inr (.inl ⟨Z,bn,K.2⟩)))))
 have Xj:=bw Q;have U:=bw (Kp Q);obtain⟨E,A,p,s3,eY,cA,dF⟩:=x;exact⟨jn _ _ 2 G 85 Y _ [_] q _ cc (by rw[Hz];rfl) (by show List.length (Vl.mk 15 n M [] [.mk E A p s3 eY cA dF] [] []::q)<=_;simp only[aaa];omega) (MX ⟨a,b,c,d,q,I,g,u,m,B⟩ G Y 15 n M [] [] [] [] E A p s3 eY cA dF bn cm),HM (S:=⟨a,b,c,d,q,I,g,u,m,B⟩) (dJ Xj V) (dJ U (uY K J H)) hq⟩
def Tg{n a:Int}{x:Vl}{t:Ty}{ts:L Ty}(O:0<=n/\n<=bF)(W:0<=a/\a<12)(Q:bg t=true)(h:bz x t=true/\ey x=true):bz (.mk 8 n a [] [x] [t] []) (.mk 8 ts)=true/\ey (.mk 8 n a [] [x] [t] [])=true:=by simp[bz,bX,cq,aJ,ey,ee,h,O,W,Q]
def DH(S:bE)(hE:mR S.self S.gC S.gD S.balance=true)(hm:0<=S.aZ/\S.aZ<=bF)(G:Int)(Q:L UInt8)(args:L Nd)(hz:aM args<=8589934593)(types s:L Ty)(r:L Ty×Bool)(hf:br 88 args=some types)(P:cD s S.st)(hl:s.length<=340)(hg:r.1.all bg=true)(D:gd 88 types s=(r,0)):aW G Q 88 args S/\bG S r (aq 88 args S):=by
 obtain⟨a,b,c,d,st,I,g,u,m,B⟩:=S;obtain⟨x,rfl,hx,rfl⟩:=xJ hf cc;have H:=bq P;simp only at P H hE hm;rcases s with _|⟨E,_|⟨t2,_|⟨t3,s⟩⟩⟩
 cases D;cases D;cases D;obtain⟨v,q0,rfl,A,oU⟩:=aF P;obtain⟨w,q1,rfl,hw,RW⟩:=aF oU;obtain⟨y,q,rfl,hy,hq⟩:=aF RW;have f1:=bO A.1;have f2:=bO hw.1;have f3:=bO hy.1;obtain⟨T2,wO⟩:=t2;obtain⟨T3,Vy⟩:=t3;simp only[aaa]at H hl;have O:(if T2=5/\T3=7/\cw E (aO x).1=true/\iP E=true then eB (.mk 8 []::s)else aX 5)=(r,0):=D;split at O;rotate_left;cases O;rename_i c1;cases O;obtain⟨rfl,rfl,c3,_⟩:=c1;have et:=(eg _ _).1 c3;obtain⟨n,rfl,g2⟩:=fh cc f2.2.1;obtain⟨p,rfl,g3⟩:=fh cc f3.2.1;have r2:=iM cc g2;have N:=r2.2 cc;have M:=(MY g3).2.2.2.2 Z;simp only[aM]at hz;unfold aW;have e:aq 88 [x] ⟨a,b,c,d,v::aI 5 n::aI 7 p::q,I,g,u,m,B⟩=aQ ⟨a,b,c,d,q,I,g,u,m,B⟩ [.mk 8 n p [] [v] [(aO x).1] []]:=by unfold aq;rw[HC];rfl
 rw[e];have hsz:=A.2;have qm:=f1.2;have Y:=f1.1;rw[et]at qm Y;have htz:=(bl Y).2;obtain⟨J,K,W,C,V,U,T⟩:=v;exact⟨jn _ _ 2 G 88 Q _ [_,_,_] q _ cc (by rw[HC];rfl) (by show List.length (Vl.mk J K W C V U T::aI 5 n::aI 7 p::q)<=_;simp only[aaa];omega) (DI ⟨a,b,c,d,q,I,g,u,m,B⟩ G Q J K W C V U T 5 n 0 [] [] [] [] 7 p 0 [] [] [] [] x bn (by show aE (.mk 8 n p [] [_] [_] [])<=_;rw[show aE (.mk 8 n p [] [.mk J K W C V U T] [(aO x).1] [])=0+(aE (.mk J K W C V U T)+0)+(bp (aO x).1+0)+0+1 from rfl];omega) cm),bP (S:=⟨a,b,c,d,q,I,g,u,m,B⟩) (dJ (bw hg) (Tg ⟨N,r2.1.2⟩ M Y qm)) hq⟩
def Kq(S:bE)(hE:mR S.self S.gC S.gD S.balance=true)(hm:0<=S.aZ/\S.aZ<=bF)(G:Int)(Y:L UInt8)(args:L Nd)(hz:aM args<=8589934593)(types s:L Ty)(r:L Ty×Bool)(hf:br 86 args=some types)(C:cD s S.st)(hl:s.length<=340)(J:r.1.all bg=true)(D:gd 86 types s=(r,0)):aW G Y 86 args S/\bG S r (aq 86 args S):=by
 obtain⟨a,b,c,d,st,I,g,u,m,B⟩:=S;obtain⟨rfl,rfl⟩:=ct hf cc;have H:=bq C;simp only at C H hE hm;rcases s with _|⟨t1,_|⟨t2,s⟩⟩
 cases D;cases D;obtain⟨v,q0,rfl,E,oU⟩:=aF C;obtain⟨w,q,rfl,hw,hq⟩:=aF oU;have O:=bO E.1;have A:=bO hw.1;obtain⟨Q,xz⟩:=t1;obtain⟨T,wO⟩:=t2;simp only[aaa]at H hl;have P:(if Q=15/\T=11/\cq (aG (.mk T wO) 0)=4/\cq (aG (.mk T wO) 1)=4 then eB (.mk 9 [.mk 11 [.mk Q xz,.mk Q xz]]::s)else aX 5)=(r,0):=D;split at P;rotate_left;cases P;rename_i c1;cases P;obtain⟨rfl,rfl,c3,c4⟩:=c1;obtain⟨t,rfl,AY⟩:=cO (bl O.1) cc;obtain⟨⟨U1,sB⟩,⟨U2,us2⟩,rfl,Jr,ok3⟩:=cJ (bl A.1) cc;have N:U1=4:=c3;have K:U2=4:=c4;subst N K;obtain⟨n,M,x,rfl,hn,ha,hx⟩:=mj O.2.1 O.2.2;obtain⟨y,z,rfl,hy,Q2⟩:=lg A.2.1 A.2.2;obtain⟨i,rfl,gi⟩:=fh cc hy.1;obtain⟨j,rfl,gj⟩:=fh cc Q2.1;have W:=iM cc gi;have V:=iM cc gj;have p:=W.2 cc;have U:=V.2 cc;have hsz:=E.2;unfold aW;have e:aq 86 [] ⟨a,b,c,d,.mk 15 n M [] [x] [] []::aY (aI 4 i) (aI 4 j)::q,I,g,u,m,B⟩=(if i<1\/j<1\/i+j≠n then aQ ⟨a,b,c,d,q,I,g,u,m,B⟩ [bN []]else aQ ⟨a,b,c,d,q,I,g,u,m,B⟩ [bN [aY (.mk 15 i M [] [x] [] []) (.mk 15 j M [] [x] [] [])]]):=by unfold aq;rw[HA];rfl
 rw[e];have hk:∀(e:Int)(S':bE),b8 140 ⟨a,b,c,d,q,I,g,u,m,B⟩ [.c (aS (.mk 2 G 86 Y [])),.c (.sl 7 (aa [.mk 15 n M [] [x] [] [],aY (aI 4 i) (aI 4 j)]))] (aA e) S'->b8 109 ⟨a,b,c,d,.mk 15 n M [] [x] [] []::aY (aI 4 i) (aI 4 j)::q,I,g,u,m,B⟩ [.c (aS (.mk 2 G 86 Y []))] (aA e) S':=λe S' h =>
  jn _ _ 2 G 86 Y _ [_,_] q _ cc (by rw[HA];rfl) (by show List.length (Vl.mk 15 n M [] [x] [] []::aY (aI 4 i) (aI 4 j)::q)<=_;simp only[aaa];omega) h
 by_cases h:i<1\/j<1\/i+j≠n;rw[if_pos h];refine⟨hk _ _ ?_,bP (S:=⟨a,b,c,d,q,I,g,u,m,B⟩) (dJ (bw J) mG) hq⟩;by_cases h1:i<1;exact EU ⟨a,b,c,d,q,I,g,u,m,B⟩ G Y 15 n M [] [x] [] [] 11 0 0 [] [] [] [] 4 i 0 [] [] [] [] 4 j 0 [] [] [] [] ⟨p,W.1.2⟩ ⟨U,V.1.2⟩ h1 cm;by_cases h2:j<1;exact EV ⟨a,b,c,d,q,I,g,u,m,B⟩ G Y 15 n M [] [x] [] [] 11 0 0 [] [] [] [] 4 i 0 [] [] [] [] 4 j 0 [] [] [] [] ⟨p,W.1.2⟩ ⟨U,V.1.2⟩ h1 h2 cm;exact EW ⟨a,b,c,d,q,I,g,u,m,B⟩ G Y 15 n M [] [x] [] [] 11 0 0 [] [] [] [] 4 i 0 [] [] [] [] 4 j 0 [] [] [] [] ⟨p,W.1.2⟩ ⟨U,V.1.2⟩ h1 h2 bn cm;rw[if_neg h];exact⟨hk _ _ (HN ⟨a,b,c,d,q,I,g,u,m,B⟩ G Y 15 n M [] [x] [] [] 11 0 0 [] [] [] [] 4 i 0 [] [] [] [] 4 j 0 [] [] [] [] ⟨p,W.1.2⟩ ⟨U,V.1.2⟩ h bn cm),bP (S:=⟨a,b,c,d,q,I,g,u,m,B⟩) (dJ (bw J) (iy (kj (uY ⟨bn,W.1.2⟩ ha hx) (uY ⟨bn,V.1.2⟩ ha hx)))) hq⟩
def MZ(S:bE)(hE:mR S.self S.gC S.gD S.balance=true)(hm:0<=S.aZ/\S.aZ<=bF)(G:Int)(V:L UInt8)(args:L Nd)(hz:aM args<=8589934593)(types s:L Ty)(r:L Ty×Bool)(hf:br 87 args=some types)(hs:cD s S.st)(hl:s.length<=340)(hg:r.1.all bg=true)(hc:gd 87 types s=(r,0)):aW G V 87 args S/\bG S r (aq 87 args S):=by
 obtain⟨a,b,c,d,st,I,g,u,m,B⟩:=S;obtain⟨rfl,rfl⟩:=ct hf cc;have eH:=bq hs;simp only at hs eH hE hm;cases s with
 |nil=>cases hc
 |cons t s =>
 obtain⟨v,q,rfl,hv,hq⟩:=aF hs;have C:=bO hv.1;simp only[aaa]at eH hl;obtain⟨T,ts⟩:=t;have bQ:(if T=11/\cq (aG (.mk T ts) 0)=15/\cw (aG (.mk T ts) 0) (aG (.mk T ts) 1)=true then eB (.mk 9 [aG (.mk T ts) 0]::s)else aX 5)=(r,0):=hc;split at bQ;rotate_left;cases bQ;rename_i c1;obtain⟨rfl,c2,c3⟩:=c1;obtain⟨⟨U1,sB⟩,t2,rfl,Jr,ok3⟩:=cJ (bl C.1) cc;cases bQ;have Xz:U1=15:=c2;subst Xz;have et:Ty.mk 15 sB=t2:=(eg _ _).1 c3;subst et;obtain⟨t,rfl,AY⟩:=cO Jr cc;obtain⟨X,Y,rfl,hX,hY⟩:=lg C.2.1 C.2.2;obtain⟨W,P,x,rfl,A,Wa,hx⟩:=mj hX.1 hX.2;obtain⟨M,Q,y,rfl,ZU,ha4,hy⟩:=mj hY.1 hY.2;have p:=hv.2;rw[show aE (aY (.mk 15 W P [] [x] [] []) (.mk 15 M Q [] [y] [] []))=0+((0+(aE x+0)+0+0+1)+((0+(aE y+0)+0+0+1)+0))+0+0+1 from rfl]at p;have Co:=cN (gH (kH C.1)).2 (show Ty.mk 15 [t]∈aK (.mk 11 [.mk 15 [t],.mk 15 [t]])by simp[aK]);have N4:=cN (gH Co).2 (show t∈aK (.mk 15 [t])by simp[aK]);have ZV:=y9 x y t N4 hx.1 hy.1 bn;unfold aW;have e:aq 87 [] ⟨a,b,c,d,aY (.mk 15 W P [] [x] [] []) (.mk 15 M Q [] [y] [] [])::q,I,g,u,m,B⟩=(if P≠Q\/de x y≠0 then aQ ⟨a,b,c,d,q,I,g,u,m,B⟩ [bN []]else if W>bF-M then(11,⟨a,b,c,d,q,I,g,u,m,B⟩)else aQ ⟨a,b,c,d,q,I,g,u,m,B⟩ [bN [.mk 15 (W+M) P [] [x] [] []]]):=by unfold aq;rw[HB];rfl
 rw[e];have hk:∀(e:Int)(S':bE),b8 140 ⟨a,b,c,d,q,I,g,u,m,B⟩ [.c (aS (.mk 2 G 87 V [])),.c (.sl 7 (aa [aY (.mk 15 W P [] [x] [] []) (.mk 15 M Q [] [y] [] [])]))] (aA e) S'->b8 109 ⟨a,b,c,d,aY (.mk 15 W P [] [x] [] []) (.mk 15 M Q [] [y] [] [])::q,I,g,u,m,B⟩ [.c (aS (.mk 2 G 87 V []))] (aA e) S':=λe S' h =>
  jn _ _ 2 G 87 V _ [_] q _ cc (by rw[HB];rfl) (by show List.length (aY (.mk 15 W P [] [x] [] []) (.mk 15 M Q [] [y] [] [])::q)<=_;simp only[aaa];omega) h
 have hX2:=λN (hN:1<=N/\N<=bF)=>uY (n:=N) hN Wa hx;generalize qm:de x y=cv at *;have afg:aE x<=1000000000:=by omega
 clear p hv C hX hY hs hc;obtain⟨U,D,O,K,J,H,E⟩:=x;obtain⟨k5,n5,a5,s5,jP,gP,jQ⟩:=y;by_cases h:P≠Q\/cv≠0;rw[if_pos h];refine⟨hk _ _ ?_,bP (S:=⟨a,b,c,d,q,I,g,u,m,B⟩) (dJ (bw hg) mG) hq⟩;by_cases h1:P≠Q;exact Kr ⟨a,b,c,d,q,I,g,u,m,B⟩ G V 11 0 0 [] [] [] [] 15 W P [] [] [] [] U D O K J H E 15 M Q [] [] [] [] k5 n5 a5 s5 jP gP jQ h1 cm;exact Ks ⟨a,b,c,d,q,I,g,u,m,B⟩ G V 11 0 0 [] [] [] [] 15 W P [] [] [] [] U D O K J H E 15 M Q [] [] [] [] k5 n5 a5 s5 jP gP jQ cv ZV bn bn cm;rw[if_neg h];have h1:P=Q:=by omega
 have h2:cv=0:=by omega
 subst h2;by_cases h3:W>bF-M;rw[if_pos h3];exact⟨hk _ _ (Kt ⟨a,b,c,d,q,I,g,u,m,B⟩ G V 11 0 0 [] [] [] [] 15 W P [] [] [] [] U D O K J H E 15 M Q [] [] [] [] k5 n5 a5 s5 jP gP jQ ZV h1 ⟨bn,A.2⟩ ⟨bn,ZU.2⟩ h3 cm),.inr (.inl Z)⟩;rw[if_neg h3];exact⟨hk _ _ (Ku ⟨a,b,c,d,q,I,g,u,m,B⟩ G V 11 0 0 [] [] [] [] 15 W P [] [] [] [] U D O K J H E 15 M Q [] [] [] [] k5 n5 a5 s5 jP gP jQ ZV h1 ⟨bn,A.2⟩ ⟨bn,ZU.2⟩ h3 (by rw[show aE (.mk 15 W P [] [.mk U D O K J H E] [] [])=0+(aE (.mk U D O K J H E)+0)+0+0+1 from rfl];omega) cm),bP (S:=⟨a,b,c,d,q,I,g,u,m,B⟩) (dJ (bw hg) (iy (hX2 _ ⟨bn,bn⟩))) hq⟩
end Go.Proofs
