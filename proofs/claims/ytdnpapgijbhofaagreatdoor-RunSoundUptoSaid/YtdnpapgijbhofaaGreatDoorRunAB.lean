/- Run of package run. -/
import Derived.Test.YtdnpapgijbhofaaGreatDoorRunH
import Derived.Test.YtdnpapgijbhofaaGreatDoorFits
open Go.Proofs.Tryz
set_option linter.defProp false
set_option maxHeartbeats 0
set_option linter.unusedVariables false
set_option linter.unusedSimpArgs false
set_option maxRecDepth 100000
namespace Go.Proofs
open Go.cM
def ij(c:Int)(st:L Vl)(G:Vl)(g mt:Int):CV := .agg [aE c,.sl 7 (aa st),aE (vK G),aE (vN G),aE (xA G),.str (vS G),.sl 7 (aa (fh G)),.sl 2 (au (Kb G)),.sl 5 (aG (zH G)),aE g,aE mt]
attribute [local irreducible] AK ah aZ cx dM dV
def mCz(S:b9)(b:Nat):L AV:=[.c (aE S.self),.c (aE S.gv),.c (aE S.gw),.c (aE S.balance),.c (.sl 7 (aa S.st)),.fZ b 0 4 S.fr.length,.c (aE S.oC),.c (aE S.used),.c (aE S.bG),
 .c (aE (vK S.said)),.c (aE (vN S.said)),.c (aE (xA S.said)),.c (.str (vS S.said)),.c (.sl 7 (aa (fh S.said))),.c (.sl 2 (au (Kb S.said))),.c (.sl 5 (aG (zH S.said)))]
def z8(a b c d g:Int)(W:L Nd)(x:Vl)(q:L Vl)(S':b9)(hq:q.length<=1000000000)(N:S'.st.length<=1000000000)
  (J:cz 85 ⟨a,b,c,d,x::q,[⟨W,0,0,[]⟩],g,0,0,nE⟩ [] (aE 0) S') :
  aj 62 [.agg [aE a,aE b,aE c,aE d],.sl 5 (aG W),.sl 7 (aa (x::q)),aE g] (ij 0 S'.st nE S'.used S'.bG):=by
 have p:=eV x q bn;have V:=iQ (x::q) fc;have Y:=iQ S'.st.reverse R2;rw[aaC,abw]at Y;have E:∀x,R8 100027 7 (aa S'.st) x x:=λ_ => .inl Z;refine qn func62 call62 λβ hf=>?_
 repeat' ((fail_if_success (refine jQ 3 ?_));first|refine ah.gZ Tryz.hX kn Z Z Z Z Z Z Z Z Z Z Z Z Z Z ?_|refine sz ?_|refine zc ?_ ?_|(intro h;first|(cases h;done)|rw[h]|skip)|refine ah.kr kn Z Z Z Z Z Z p Z ?_|refine ah.oV kn Z Z Z Z Z Z Z V Z ?_)
 refine AK.fL [(8,8),(3000,20),(3001,14),(3002,18)] [] (env':=[(8,.ptr 8 0),(9,.ptr 3000 0)]) (bs':=[(8,[.c (aE 0),.c (.sl 7 (aa [])),.c (aE 0),.c (aE 0),.c (aE 0),.c (.str []),.c (.sl 7 (aa [])),.c (.sl 2 (au [])),.c (.sl 5 (aG [])),.c (aE 0),.c (aE 0)]),(3000,mC ⟨a,b,c,d,(x::q),[⟨W,0,0,[]⟩],g,0,0,nE⟩ 3001 3002),(3001,ag (sR (x::q))),(3002,ag (fR [⟨W,0,0,[]⟩]))]) (ts':=[]) (us':=[8,3000,3001,3002]) ce ⟨ce,ce,⟨_,_,Z,Z,dy _⟩,⟨_,_,Z,Z,dy _⟩,trivial⟩ Z ?_
 repeat' ((fail_if_success (refine jQ 8 ?_));first|refine sz ?_|refine zc ?_ ?_|(intro h;first|(cases h;done)|rw[h]|skip)|refine rT ?_ (hq:=J)|refine ah.oV kn Z Z Z Z Z Z Z Y Z ?_)
 refine AK.AO 100027 7 (aa S'.st) (tail:=[]) (env':=[(8,.ptr 8 0),(9,.ptr 3000 0),(10,.c (aE 0)),(11,.ptr 11 0)]) (ts':=[])
  (bs':=[(8,[.c (aE 0),.c (.sl 7 (aa [])),.c (aE 0),.c (aE 0),.c (aE 0),.c (.str []),.c (.sl 7 (aa [])),.c (.sl 2 (au [])),.c (.sl 5 (aG [])),.c (aE 0),.c (aE 0)]),(11,[.c (aE 0),.own .exact 7 [],.c (aE 0),.c (aE 0),.c (aE 0),.c (.str []),.own .exact 7 [],.own .exact 2 [],.own .exact 5 [],.c (aE S'.used),.c (aE S'.bG)]),(3000,mCz S' 200027)]) Z (Zc _).symm (fQ _) ce ⟨⟨_,Z,sD E _⟩,⟨_,Z,sD E _⟩,⟨_,Z,⟨E _,E _,E _,E _,.inr ⟨_,Z,(aB _).symm,Z⟩,sD E _⟩⟩,trivial⟩ Z trivial ?_
 exact dq
def DA(a b c d g:Int)(W:L Nd)(x:Vl)(q:L Vl)(S':b9)(hq:q.length<=1000000000)
  (J:cz 85 ⟨a,b,c,d,x::q,[⟨W,0,0,[]⟩],g,0,0,nE⟩ [] (aE 10) S') :
  aj 62 [.agg [aE a,aE b,aE c,aE d],.sl 5 (aG W),.sl 7 (aa (x::q)),aE g] (ij 10 [] S'.said S'.used 0):=by
 have p:=eV x q bn;have Y:=iQ (x::q) fc;refine qn func62 call62 λβ hf=>?_
 repeat' ((fail_if_success (refine jQ 3 ?_));first|refine ah.gZ Tryz.hX kn Z Z Z Z Z Z Z Z Z Z Z Z Z Z ?_|refine sz ?_|refine zc ?_ ?_|(intro h;first|(cases h;done)|rw[h]|skip)|refine ah.kr kn Z Z Z Z Z Z p Z ?_|refine ah.oV kn Z Z Z Z Z Z Z Y Z ?_)
 refine AK.fL [(8,8),(3000,20),(3001,14),(3002,18)] [] (env':=[(8,.ptr 8 0),(9,.ptr 3000 0)]) (bs':=[(8,[.c (aE 0),.c (.sl 7 (aa [])),.c (aE 0),.c (aE 0),.c (aE 0),.c (.str []),.c (.sl 7 (aa [])),.c (.sl 2 (au [])),.c (.sl 5 (aG [])),.c (aE 0),.c (aE 0)]),(3000,mC ⟨a,b,c,d,(x::q),[⟨W,0,0,[]⟩],g,0,0,nE⟩ 3001 3002),(3001,ag (sR (x::q))),(3002,ag (fR [⟨W,0,0,[]⟩]))]) (ts':=[]) (us':=[8,3000,3001,3002]) ce ⟨ce,ce,⟨_,_,Z,Z,dy _⟩,⟨_,_,Z,Z,dy _⟩,trivial⟩ Z ?_
 repeat' (first|refine sz ?_|refine zc ?_ ?_|(intro h;first|(cases h;done)|rw[h]|skip)|refine rT ?_ (hq:=J))
 all_goals rfl
def FV(a b c d g e:Int)(W:L Nd)(x:Vl)(q:L Vl)(S':b9)(hq:q.length<=1000000000)(Y:e≠0)(C:e≠10)
  (J:cz 85 ⟨a,b,c,d,x::q,[⟨W,0,0,[]⟩],g,0,0,nE⟩ [] (aE e) S') :
  aj 62 [.agg [aE a,aE b,aE c,aE d],.sl 5 (aG W),.sl 7 (aa (x::q)),aE g] (ij e [] nE S'.used 0):=by
 have p:=eV x q bn;have V:=iQ (x::q) fc;have U:(e==0)=false:=beq_eq_false_iff_ne.2 Y;have I:(e==10)=false:=beq_eq_false_iff_ne.2 C;have K:(e != 0)=true:=by simpa using Y
 refine qn func62 call62 λβ hf=>?_
 repeat' ((fail_if_success (refine jQ 3 ?_));first|refine ah.gZ Tryz.hX kn Z Z Z Z Z Z Z Z Z Z Z Z Z Z ?_|refine sz ?_|refine zc ?_ ?_|(intro h;first|(cases h;done)|rw[h]|skip)|refine ah.kr kn Z Z Z Z Z Z p Z ?_|refine ah.oV kn Z Z Z Z Z Z Z V Z ?_)
 refine AK.fL [(8,8),(3000,20),(3001,14),(3002,18)] [] (env':=[(8,.ptr 8 0),(9,.ptr 3000 0)]) (bs':=[(8,[.c (aE 0),.c (.sl 7 (aa [])),.c (aE 0),.c (aE 0),.c (aE 0),.c (.str []),.c (.sl 7 (aa [])),.c (.sl 2 (au [])),.c (.sl 5 (aG [])),.c (aE 0),.c (aE 0)]),(3000,mC ⟨a,b,c,d,(x::q),[⟨W,0,0,[]⟩],g,0,0,nE⟩ 3001 3002),(3001,ag (sR (x::q))),(3002,ag (fR [⟨W,0,0,[]⟩]))]) (ts':=[]) (us':=[8,3000,3001,3002]) ce ⟨ce,ce,⟨_,_,Z,Z,dy _⟩,⟨_,_,Z,Z,dy _⟩,trivial⟩ Z ?_
 repeat' (first|refine sz ?_|refine zc ?_ ?_|(intro h;first|(cases h;done)|rw[h]|skip)|refine rT ?_ (hq:=J))
 all_goals rfl
def Iv(a b c d g:Int)(W:L Nd)(S':b9)(p:S'.st.length<=1000000000)
  (J:cz 85 ⟨a,b,c,d,[],[⟨W,0,0,[]⟩],g,0,0,nE⟩ [] (aE 0) S') :
  aj 62 [.agg [aE a,aE b,aE c,aE d],.sl 5 (aG W),.sl 7 (aa ([])),aE g] (ij 0 S'.st nE S'.used S'.bG):=by
 have Y:=iQ [] (aaF _);have V:=iQ S'.st.reverse R2;rw[aaC,abw]at V;have E:∀x,R8 100027 7 (aa S'.st) x x:=λ_ => .inl Z;refine qn func62 call62 λβ hf=>?_
 repeat' ((fail_if_success (refine jQ 2 ?_));first|refine ah.gZ Tryz.hX kn Z Z Z Z Z Z Z Z Z Z Z Z Z Z ?_|refine sz ?_|refine zc ?_ ?_|(intro h;first|(cases h;done)|rw[h]|skip)|refine ah.wo kn Z Z (jb 7) Z Z (λ_=>⟨_,_,Z,.inr Z,Z⟩) Z Z ?_|refine ah.oV kn Z Z Z Z Z Z Z Y Z ?_)
 refine AK.empty 20 4 7 [.c (aE a),.c (aE b),.c (aE c),.c (aE d)] _ Z Z Z Z ?_;refine AK.tJ 4 [] _ Z (aaV _).symm Z ?_
 repeat' ((fail_if_success (refine jQ 3 ?_));first|refine sz ?_|refine zc ?_ ?_|(intro h;first|(cases h;done)|rw[h]|skip)|refine ah.oV kn Z Z Z Z Z Z Z Y Z ?_)
 refine AK.fL [(8,8),(3000,20),(3001,4),(3002,18)] [] (env':=[(8,.ptr 8 0),(9,.ptr 3000 0)]) (bs':=[(8,[.c (aE 0),.c (.sl 7 (aa [])),.c (aE 0),.c (aE 0),.c (aE 0),.c (.str []),.c (.sl 7 (aa [])),.c (.sl 2 (au [])),.c (.sl 5 (aG [])),.c (aE 0),.c (aE 0)]),(3000,mC ⟨a,b,c,d,[],[⟨W,0,0,[]⟩],g,0,0,nE⟩ 3001 3002),(3001,ag (sR [])),(3002,ag (fR [⟨W,0,0,[]⟩]))]) (ts':=[]) (us':=[8,3000,3001,3002]) ce ⟨ce,ce,⟨_,_,Z,Z,dy _⟩,⟨_,_,Z,Z,dy _⟩,trivial⟩ Z ?_
 repeat' ((fail_if_success (refine jQ 8 ?_));first|refine sz ?_|refine zc ?_ ?_|(intro h;first|(cases h;done)|rw[h]|skip)|refine rT ?_ (hq:=J)|refine ah.oV kn Z Z Z Z Z Z Z V Z ?_)
 refine AK.AO 100027 7 (aa S'.st) (tail:=[]) (env':=[(8,.ptr 8 0),(9,.ptr 3000 0),(10,.c (aE 0)),(11,.ptr 11 0)]) (ts':=[])
  (bs':=[(8,[.c (aE 0),.c (.sl 7 (aa [])),.c (aE 0),.c (aE 0),.c (aE 0),.c (.str []),.c (.sl 7 (aa [])),.c (.sl 2 (au [])),.c (.sl 5 (aG [])),.c (aE 0),.c (aE 0)]),(11,[.c (aE 0),.own .exact 7 [],.c (aE 0),.c (aE 0),.c (aE 0),.c (.str []),.own .exact 7 [],.own .exact 2 [],.own .exact 5 [],.c (aE S'.used),.c (aE S'.bG)]),(3000,mCz S' 200027)]) Z (Zc _).symm (fQ _) ce ⟨⟨_,Z,sD E _⟩,⟨_,Z,sD E _⟩,⟨_,Z,⟨E _,E _,E _,E _,.inr ⟨_,Z,(aB _).symm,Z⟩,sD E _⟩⟩,trivial⟩ Z trivial ?_
 exact dq
def Dz(a b c d g:Int)(W:L Nd)(S':b9)
  (J:cz 85 ⟨a,b,c,d,[],[⟨W,0,0,[]⟩],g,0,0,nE⟩ [] (aE 10) S') :
  aj 62 [.agg [aE a,aE b,aE c,aE d],.sl 5 (aG W),.sl 7 (aa ([])),aE g] (ij 10 [] S'.said S'.used 0):=by
 have Y:=iQ [] (aaF _);refine qn func62 call62 λβ hf=>?_
 repeat' ((fail_if_success (refine jQ 2 ?_));first|refine ah.gZ Tryz.hX kn Z Z Z Z Z Z Z Z Z Z Z Z Z Z ?_|refine sz ?_|refine zc ?_ ?_|(intro h;first|(cases h;done)|rw[h]|skip)|refine ah.wo kn Z Z (jb 7) Z Z (λ_=>⟨_,_,Z,.inr Z,Z⟩) Z Z ?_|refine ah.oV kn Z Z Z Z Z Z Z Y Z ?_)
 refine AK.empty 20 4 7 [.c (aE a),.c (aE b),.c (aE c),.c (aE d)] _ Z Z Z Z ?_;refine AK.tJ 4 [] _ Z (aaV _).symm Z ?_
 repeat' ((fail_if_success (refine jQ 3 ?_));first|refine sz ?_|refine zc ?_ ?_|(intro h;first|(cases h;done)|rw[h]|skip)|refine ah.oV kn Z Z Z Z Z Z Z Y Z ?_)
 refine AK.fL [(8,8),(3000,20),(3001,4),(3002,18)] [] (env':=[(8,.ptr 8 0),(9,.ptr 3000 0)]) (bs':=[(8,[.c (aE 0),.c (.sl 7 (aa [])),.c (aE 0),.c (aE 0),.c (aE 0),.c (.str []),.c (.sl 7 (aa [])),.c (.sl 2 (au [])),.c (.sl 5 (aG [])),.c (aE 0),.c (aE 0)]),(3000,mC ⟨a,b,c,d,[],[⟨W,0,0,[]⟩],g,0,0,nE⟩ 3001 3002),(3001,ag (sR [])),(3002,ag (fR [⟨W,0,0,[]⟩]))]) (ts':=[]) (us':=[8,3000,3001,3002]) ce ⟨ce,ce,⟨_,_,Z,Z,dy _⟩,⟨_,_,Z,Z,dy _⟩,trivial⟩ Z ?_
 repeat' (first|refine sz ?_|refine zc ?_ ?_|(intro h;first|(cases h;done)|rw[h]|skip)|refine rT ?_ (hq:=J))
 all_goals rfl
def FU(a b c d g e:Int)(W:L Nd)(S':b9)(Y:e≠0)(C:e≠10)
  (J:cz 85 ⟨a,b,c,d,[],[⟨W,0,0,[]⟩],g,0,0,nE⟩ [] (aE e) S') :
  aj 62 [.agg [aE a,aE b,aE c,aE d],.sl 5 (aG W),.sl 7 (aa ([])),aE g] (ij e [] nE S'.used 0):=by
 have V:=iQ [] (aaF _);have U:(e==0)=false:=beq_eq_false_iff_ne.2 Y;have I:(e==10)=false:=beq_eq_false_iff_ne.2 C;have K:(e != 0)=true:=by simpa using Y
 refine qn func62 call62 λβ hf=>?_
 repeat' ((fail_if_success (refine jQ 2 ?_));first|refine ah.gZ Tryz.hX kn Z Z Z Z Z Z Z Z Z Z Z Z Z Z ?_|refine sz ?_|refine zc ?_ ?_|(intro h;first|(cases h;done)|rw[h]|skip)|refine ah.wo kn Z Z (jb 7) Z Z (λ_=>⟨_,_,Z,.inr Z,Z⟩) Z Z ?_|refine ah.oV kn Z Z Z Z Z Z Z V Z ?_)
 refine AK.empty 20 4 7 [.c (aE a),.c (aE b),.c (aE c),.c (aE d)] _ Z Z Z Z ?_;refine AK.tJ 4 [] _ Z (aaV _).symm Z ?_
 repeat' ((fail_if_success (refine jQ 3 ?_));first|refine sz ?_|refine zc ?_ ?_|(intro h;first|(cases h;done)|rw[h]|skip)|refine ah.oV kn Z Z Z Z Z Z Z V Z ?_)
 refine AK.fL [(8,8),(3000,20),(3001,4),(3002,18)] [] (env':=[(8,.ptr 8 0),(9,.ptr 3000 0)]) (bs':=[(8,[.c (aE 0),.c (.sl 7 (aa [])),.c (aE 0),.c (aE 0),.c (aE 0),.c (.str []),.c (.sl 7 (aa [])),.c (.sl 2 (au [])),.c (.sl 5 (aG [])),.c (aE 0),.c (aE 0)]),(3000,mC ⟨a,b,c,d,[],[⟨W,0,0,[]⟩],g,0,0,nE⟩ 3001 3002),(3001,ag (sR [])),(3002,ag (fR [⟨W,0,0,[]⟩]))]) (ts':=[]) (us':=[8,3000,3001,3002]) ce ⟨ce,ce,⟨_,_,Z,Z,dy _⟩,⟨_,_,Z,Z,dy _⟩,trivial⟩ Z ?_
 repeat' (first|refine sz ?_|refine zc ?_ ?_|(intro h;first|(cases h;done)|rw[h]|skip)|refine rT ?_ (hq:=J))
 all_goals rfl
end Go.Proofs
namespace Go.Proofs
open Go.cM
def IA(n:Int):Bool:=bif decide (n>=0)then decide (n<=1152921504606846976)else false
def Iz(n:Int):Bool:=bif decide (n>=0)then decide (n<12)else false
def mJ(a b c d:Int):Bool:=bif (bif (bif Iz a then Iz b else false)then IA c else false)then IA d else false
attribute [local irreducible] AK ah aZ cx dM dV
def ED(n:Int):aj 81 [aE n] (.bool (IA n)):=by
 unfold IA;cases A:decide (n>=0)with
 |false =>
  refine qn func81 call81 λβ hf=>?_;exact dq
 |true =>
  refine qn func81 call81 λβ hf=>?_;exact dq
def EE(n:Int):aj 82 [aE n] (.bool (Iz n)):=by
 unfold Iz;cases A:decide (n>=0)with
 |false =>
  refine qn func82 call82 λβ hf=>?_;exact dq
 |true =>
  refine qn func82 call82 λβ hf=>?_;exact dq
def Ac(a b c d:Int):aj 61 [.agg [aE a,aE b,aE c,aE d]] (.bool (mJ a b c d)):=by
 have h1:=EE a;have h2:=EE b;have K:=ED c;have W:=ED d;unfold mJ;generalize Iz a=I at *;generalize Iz b=Y at *;generalize IA c=J at *;generalize IA d=x4 at *;cases I
 ·refine qn func61 call61 λβ hf=>?_;exact dq
 cases Y
 ·refine qn func61 call61 λβ hf=>?_;exact dq
 cases J
 ·refine qn func61 call61 λβ hf=>?_;exact dq
 ·refine qn func61 call61 λβ hf=>?_;exact dq
def mj:L Ty->L Vl->Bool
 |t::s,v::l=>lu t v&&mj s l
 |_,_=>true
def Et{s:L Ty}{l:L Vl}{j:Nat}{t:Ty}{v:Vl}(h1:s[j]?=some t)(h2:l[j]?=some v):mj (s.drop j) (l.drop j)=(lu t v&&mj (s.drop (j+1)) (l.drop (j+1))):=by
 rw[eG h1,eG h2];rfl
attribute [local irreducible] iD lu
def S9(a b c d g:Int)(n:Nd)(E:bZ n<=8589934593)(s:L Ty)(V:bg s<=8589934593)(l:L Vl)(h:¬((iD n s).2=0/\s.length=l.length/\mJ a b c d=true)) :
  aj 33 [.agg [aE a,aE b,aE c,aE d],aY n,.sl 2 (au s),.sl 7 (aa l),aE g] (ij 14 [] nE 0 0):=by
 have h1:=rD n s E V;have h2:=Ac a b c d;have W:=aR s;have U:=aB l;generalize mJ a b c d=T at *;generalize iD n s=r at *;obtain⟨⟨t,f⟩,e⟩:=r;obtain⟨u,A,J,q,C⟩:=n;simp only at h;by_cases S:e=0;rotate_left
 ·have Y:(e != 0)=true:=by simpa using S
  clear h h2;refine qn func33 call33 λβ hf=>?_;exact dq
 subst S;by_cases B:s.length=l.length;rotate_left
 ·have Y:((((au s).length:Nat):Int) != (((aa l).length:Nat):Int))=true:=by rw[abY];omega
  clear h h2;refine qn func33 call33 λβ hf=>?_;exact dq
 have Y:((((au s).length:Nat):Int) != (((aa l).length:Nat):Int))=false:=by rw[W,U,B];exact abF _
 cases T with
 |true=>exact absurd ⟨Z,B,Z⟩ h
 |false =>
  clear h;refine qn func33 call33 λβ hf=>?_;exact dq
def Mj(a b c d g:Int)(n:Nd)(E:bZ n<=8589934593)(s:L Ty)(J:bg s<=8589934593)(l:L Vl)(hv:aK l<=8589934593)(A:(iD n s).2=0)(V:s.length=l.length)(hf:mJ a b c d=true)(S:Int)(rs:L Vl)(Q:Vl)(P O:Int)
  (N:mj s l=true->aj 62 [.agg [aE a,aE b,aE c,aE d],.sl 5 (aG (cJ n)),.sl 7 (aa l),aE g] (ij S rs Q P O)) :
  aj 33 [.agg [aE a,aE b,aE c,aE d],aY n,.sl 2 (au s),.sl 7 (aa l),aE g] (bif mj s l then ij S rs Q P O else ij 14 [] nE 0 0):=by
 have h1:=rD n s E J;have h2:=Ac a b c d;have I:=aR s;have H:=aB l;have z3:=iN l;rw[hf]at h2;generalize iD n s=r at *;obtain⟨⟨t,f⟩,e⟩:=r;obtain⟨u,p,D,q,C⟩:=n;simp only at A;subst A;have c1:((((au s).length:Nat):Int) != (((aa l).length:Nat):Int))=false:=by rw[I,H,V];exact abF _
 refine qn func33 call33 λβ hf=>?_
 repeat' (first|refine sz ?_|refine zc ?_ ?_|(intro h;first|(cases h;done)|rw[h]|skip)|refine uC Z h1 ?_|refine uC Z h2 ?_)
 refine AK.eX (α:=Nat) (λj=>j<=l.length/\mj s l=mj (s.drop j) (l.drop j)) (λj=>l.length-j)
  (λj=>[(38,.c (.int .i64 j)),(37,.c (.int .i64 (aa l).length)),(36,.c (.sl 7 (aa l))),(2,.c (.sl 2 (au s))),(3,.c (.sl 7 (aa l))),(4,.c (aE g)),(5,.ptr 5 0),(6,.ptr 6 0),(10,.ptr 10 0)])
  (λ_=>[(5,[.c (aE a),.c (aE b),.c (aE c),.c (aE d)]),(6,[.c (aE u),.c (aE p),.c (aE D),.c (.str q),.c (.sl 5 (aG C))]),(10,[.c (aE 0),.own .exact 7 [],.c (aE 0),.c (aE 0),.c (aE 0),.c (.str []),.own .exact 7 [],.own .exact 2 [],.own .exact 5 [],.c (aE 0),.c (aE 0)])]) (λ_=>[]) [5,6,10] 0
  ⟨aaF _,Z⟩ ce ⟨Z,Z,Z,trivial⟩ trivial Z Z Z ?_
 rintro j ⟨hj,G⟩ jh;rcases gr l j hj with ⟨v,Y,ZV⟩|M
 ·have UJ:=Bn Y;have U:=bQ Y;obtain⟨W,T⟩:∃W,s[j]?=some W:=⟨_,Zn bn⟩
  have YZ:=cA (aaA T);have ZY:=ee ZV;have hq:=Bv W v bn bn;rw[Et T Y]at G;have TX:=fm Y;have UW:=fB T;clear YZ ZY N;obtain⟨x1,x2,x3,x4,x5,x6,x7⟩:=v;obtain⟨y1,y2⟩:=W;cases K:lu (.mk y1 y2) (.mk x1 x2 x3 x4 x5 x6 x7)with
  |false =>
   rw[K]at hq G;rw[aaH]at G;rw[G];clear jh;exact dq
  |true =>
   rw[K]at hq G;rw[aaI]at G
   repeat' (first|refine sz ?_|refine zc ?_ ?_|(intro h;first|(cases h;done)|rw[h]|skip)|refine uI Z (j) Z (TX) Z ?_|refine uI Z (j) Z (UW) Z ?_|refine uC Z hq ?_)
   exact AK.again (jh (j+1) ⟨U,G⟩ bn) ⟨.inl (iS (i:=j) bn),.inl Z,.inl Z,.inl Z,.inl Z,.inl Z,.inl Z,.inl Z,.inl Z,trivial⟩ ⟨Z,Z,Z,trivial⟩ trivial Z Z Z
 ·have UJ:=wV M;have B:mj s l=true:=by rw[G,M,<- V,Zx,V,Zx];rfl
  have hT':=N B;rw[B];clear jh N;exact dq
end Go.Proofs
namespace Go.Proofs
open Go.cM
def uX{a b c d:Int}(h:mJ a b c d=true):(0<=a/\a<12)/\(0<=b/\b<12)/\(0<=c/\c<=bL)/\(0<=d/\d<=bL):=by
 unfold mJ Iz IA at h;simp only[Bool.cond_eq_ite,Bool.if_false_right,aal,Z5]at h;unfold bL;omega
def xN{v:Vl}{t:Ty}(h:bE v (.mk 15 [t])=true)(V:eC v=true):∃n a x,v = .mk 15 n a [] [x] [] []/\(1<=n/\n<=bL)/\(0<=a/\a<12)/\bE x t=true/\eC x=true:=by
 obtain⟨k,n,a,s,J,Y,W⟩:=v;obtain⟨D,q,_⟩:=kQ h;simp only[bM]at D;subst D;simp[cq]at q;simp[bE,cq,bM,aD,aq]at h;obtain⟨rfl,rfl,rfl⟩:=q;rcases J with _|⟨x,_|⟨y,r⟩⟩
 ·simp at h
 ·simp[aP,eC,eg]at h V;exact⟨n,a,x,Z,bn,bn,ri,V⟩
 ·simp at h
def tU{n a:Int}{x:Vl}{t:Ty}(E:1<=n/\n<=bL)(W:0<=a/\a<12)(h:bE x t=true/\eC x=true):bE (.mk 15 n a [] [x] [] []) (.mk 15 [t])=true/\eC (.mk 15 n a [] [x] [] [])=true:=by
 simp[bE,cq,bM,aD,aq,aP,eC,eg,h,E,W]
def F1:bW 84=2:=by decide +kernel
def Mo:bW 85=1:=by decide +kernel
def Mp:bW 86=2:=by decide +kernel
def Mq:bW 87=1:=by decide +kernel
def Mr:bW 88=3:=by decide +kernel
def Ms:bW 89=0:=by decide +kernel
def Mt:bW 90=0:=by decide +kernel
def Mu:bW 91=0:=by decide +kernel
def Mv:bW 92=0:=by decide +kernel
def KX(S:b9)(A:mJ S.self S.gv S.gw S.balance=true)(Q:0<=S.bG/\S.bG<=bL)(T:Int)(P:L UInt8)(J:L Nd)(K:aS J<=8589934593)(Y s:L Ty)(r:L Ty×Bool)(hf:bJ 89 J=some Y)(V:dH s S.st)(O:s.length<=340)(p:r.1.all br=true)(W:bU 89 Y s=(r,0)):bf T P 89 J S/\bK S r (aH 89 J S):=by
 obtain⟨a,b,c,d,q,H,g,u,m,G⟩:=S;obtain⟨rfl,rfl⟩:=cC hf cc;have U:=bF V;simp only at V U A;cases W;have B:=uX A;unfold bf;have e:aH 89 [] ⟨a,b,c,d,q,H,g,u,m,G⟩=bp ⟨a,b,c,d,q,H,g,u,m,G⟩ [aL 7 a]:=by unfold aH;rw[Ms];rfl
 rw[e];exact⟨jc _ _ 2 T 89 P _ [] q _ cc (by rw[Ms];rfl) c9 (KY ⟨a,b,c,d,q,H,g,u,m,G⟩ T P c9),bX (S:=⟨a,b,c,d,q,H,g,u,m,G⟩) (eW (bz p) (lT (.inr (.inr (.inr (.inr ⟨Z,B.1⟩)))))) V⟩
def F3(S:b9)(A:mJ S.self S.gv S.gw S.balance=true)(Q:0<=S.bG/\S.bG<=bL)(T:Int)(P:L UInt8)(J:L Nd)(K:aS J<=8589934593)(Y s:L Ty)(r:L Ty×Bool)(hf:bJ 90 J=some Y)(V:dH s S.st)(O:s.length<=340)(p:r.1.all br=true)(W:bU 90 Y s=(r,0)):bf T P 90 J S/\bK S r (aH 90 J S):=by
 obtain⟨a,b,c,d,q,H,g,u,m,G⟩:=S;obtain⟨rfl,rfl⟩:=cC hf cc;have U:=bF V;simp only at V U A;cases W;have B:=uX A;unfold bf;have e:aH 90 [] ⟨a,b,c,d,q,H,g,u,m,G⟩=bp ⟨a,b,c,d,q,H,g,u,m,G⟩ [aL 7 b]:=by unfold aH;rw[Mt];rfl
 rw[e];exact⟨jc _ _ 2 T 90 P _ [] q _ cc (by rw[Mt];rfl) c9 (F4 ⟨a,b,c,d,q,H,g,u,m,G⟩ T P c9),bX (S:=⟨a,b,c,d,q,H,g,u,m,G⟩) (eW (bz p) (lT (.inr (.inr (.inr (.inr ⟨Z,B.2.1⟩)))))) V⟩
def F5(S:b9)(A:mJ S.self S.gv S.gw S.balance=true)(Q:0<=S.bG/\S.bG<=bL)(T:Int)(P:L UInt8)(J:L Nd)(K:aS J<=8589934593)(Y s:L Ty)(r:L Ty×Bool)(hf:bJ 91 J=some Y)(V:dH s S.st)(O:s.length<=340)(p:r.1.all br=true)(W:bU 91 Y s=(r,0)):bf T P 91 J S/\bK S r (aH 91 J S):=by
 obtain⟨a,b,c,d,q,H,g,u,m,G⟩:=S;obtain⟨rfl,rfl⟩:=cC hf cc;have U:=bF V;simp only at V U A;cases W;have B:=uX A;unfold bf;have e:aH 91 [] ⟨a,b,c,d,q,H,g,u,m,G⟩=bp ⟨a,b,c,d,q,H,g,u,m,G⟩ [aL 5 c]:=by unfold aH;rw[Mu];rfl
 rw[e];exact⟨jc _ _ 2 T 91 P _ [] q _ cc (by rw[Mu];rfl) c9 (F6 ⟨a,b,c,d,q,H,g,u,m,G⟩ T P c9),bX (S:=⟨a,b,c,d,q,H,g,u,m,G⟩) (eW (bz p) (lT (.inr (.inr (.inr (.inl ⟨Z,B.2.2.1⟩)))))) V⟩
def DD(S:b9)(A:mJ S.self S.gv S.gw S.balance=true)(Q:0<=S.bG/\S.bG<=bL)(T:Int)(P:L UInt8)(J:L Nd)(K:aS J<=8589934593)(Y s:L Ty)(r:L Ty×Bool)(hf:bJ 92 J=some Y)(V:dH s S.st)(O:s.length<=340)(p:r.1.all br=true)(W:bU 92 Y s=(r,0)):bf T P 92 J S/\bK S r (aH 92 J S):=by
 obtain⟨a,b,c,d,q,H,g,u,m,G⟩:=S;obtain⟨rfl,rfl⟩:=cC hf cc;have U:=bF V;simp only at V U A;cases W;have B:=uX A;unfold bf;have e:aH 92 [] ⟨a,b,c,d,q,H,g,u,m,G⟩=bp ⟨a,b,c,d,q,H,g,u,m,G⟩ [aL 5 d]:=by unfold aH;rw[Mv];rfl
 rw[e];exact⟨jc _ _ 2 T 92 P _ [] q _ cc (by rw[Mv];rfl) c9 (DE ⟨a,b,c,d,q,H,g,u,m,G⟩ T P c9),bX (S:=⟨a,b,c,d,q,H,g,u,m,G⟩) (eW (bz p) (lT (.inr (.inr (.inr (.inl ⟨Z,B.2.2.2⟩)))))) V⟩
def F7(S:b9)(hE:mJ S.self S.gv S.gw S.balance=true)(hm:0<=S.bG/\S.bG<=bL)(T:Int)(P:L UInt8)(J:L Nd)(hz:aS J<=8589934593)(W s:L Ty)(r:L Ty×Bool)(hf:bJ 84 J=some W)(I:dH s S.st)(hl:s.length<=340)(hg:r.1.all br=true)(A:bU 84 W s=(r,0)):bf T P 84 J S/\bK S r (aH 84 J S):=by
 obtain⟨a,b,c,d,st,H,g,u,m,G⟩:=S;obtain⟨rfl,rfl⟩:=cC hf cc;have eu:=bF I;simp only at I eu hE hm;rcases s with _|⟨t1,_|⟨t2,s⟩⟩
 ·cases A
 ·cases A
 obtain⟨v,q0,rfl,hv,qo⟩:=bh I;obtain⟨w,q,rfl,hw,hq⟩:=bh qo;have f1:=cN hv.1;have f2:=cN hw.1;obtain⟨T2,AP⟩:=t2;simp only[aac]at eu hl;have E:(if T2=4/\fq t1=true then dX (.mk 9 [.mk 15 [t1]]::s)else aM 5)=(r,0):=A;split at E;rotate_left
 ·cases E
 rename_i c1;cases E;obtain⟨rfl,_⟩:=c1;obtain⟨n,rfl,g2⟩:=fy cc f2.2.1;have K:=jd cc g2;have M:=K.2 cc;have D:=uX hE;unfold bf;have e:aH 84 [] ⟨a,b,c,d,v::aL 4 n::q,H,g,u,m,G⟩=(if n=0 then bp ⟨a,b,c,d,q,H,g,u,m,G⟩ [cw []]else if m>bL-n then(11,⟨a,b,c,d,q,H,g,u,m,G⟩)else bp ⟨a,b,c,d,q,H,g,u,m+n,G⟩ [cw [.mk 15 n a [] [v] [] []]]):=by unfold aH;rw[F1];rfl
 rw[e];have hsz:=hv.2;have pG:=f1.2;obtain⟨C,U,V,Q,Y,O,N⟩:=v;have B:∀(e:Int)(S':b9),cz 140 ⟨a,b,c,d,q,H,g,u,m,G⟩ [.c (aY (.mk 2 T 84 P [])),.c (.sl 7 (aa [.mk C U V Q Y O N,aL 4 n]))] (aE e) S'->cz 109 ⟨a,b,c,d,.mk C U V Q Y O N::aL 4 n::q,H,g,u,m,G⟩ [.c (aY (.mk 2 T 84 P []))] (aE e) S':=λe S' h =>
  jc _ _ 2 T 84 P _ [_,_] q _ cc (by rw[F1];rfl) (by show List.length (Vl.mk C U V Q Y O N::aL 4 n::q)<=_;simp only[aac];omega) h
 by_cases p:n=0
 ·rw[if_pos p];exact⟨B _ _ (IE ⟨a,b,c,d,q,H,g,u,m,G⟩ T P C U V Q Y O N 4 n 0 [] [] [] [] p c9),bX (S:=⟨a,b,c,d,q,H,g,u,m,G⟩) (eW (bz hg) lU) hq⟩
 rw[if_neg p];by_cases h1:m>bL-n
 ·rw[if_pos h1];exact⟨B _ _ (IF ⟨a,b,c,d,q,H,g,u,m,G⟩ T P C U V Q Y O N 4 n 0 [] [] [] [] p ⟨M,K.1.2⟩ h1 c9),.inr (.inl Z)⟩
 ·rw[if_neg h1];exact⟨B _ _ (IG ⟨a,b,c,d,q,H,g,u,m,G⟩ T P C U V Q Y O N 4 n 0 [] [] [] [] p ⟨M,K.1.2⟩ h1 hm.1 bn c9),bX (S:=⟨a,b,c,d,q,H,g,u,m+n,G⟩) (eW (bz hg) (hD (tU ⟨bn,K.1.2⟩ D.1 pG))) hq⟩
def KZ(S:b9)(hE:mJ S.self S.gv S.gw S.balance=true)(hm:0<=S.bG/\S.bG<=bL)(V:Int)(P:L UInt8)(J:L Nd)(hz:aS J<=8589934593)(Y s:L Ty)(r:L Ty×Bool)(hf:bJ 85 J=some Y)(U:dH s S.st)(hl:s.length<=340)(p:r.1.all br=true)(A:bU 85 Y s=(r,0)):bf V P 85 J S/\bK S r (aH 85 J S):=by
 obtain⟨a,b,c,d,st,H,g,u,m,G⟩:=S;obtain⟨rfl,rfl⟩:=cC hf cc;have O:=bF U;simp only at U O hE hm;cases s with
 |nil=>cases A
 |cons t s =>
 obtain⟨v,q,rfl,B,hq⟩:=bh U;have M:=cN B.1;simp only[aac]at O hl;obtain⟨T,ts⟩:=t;have Q:(if T=15 then dX (.mk 11 [.mk 7 [],.mk 11 [aD (.mk T ts) 0,.mk 4 []]] :: .mk T ts::s)else aM 5)=(r,0):=A;split at Q;rotate_left
 ·cases Q
 rename_i c1;subst c1;obtain⟨t,rfl,Mw⟩:=eN (cG M.1) cc;cases Q;obtain⟨n,W,x,rfl,E,N,I⟩:=xN M.2.1 M.2.2;have hsz:=B.2;unfold bf;have e:aH 85 [] ⟨a,b,c,d,.mk 15 n W [] [x] [] []::q,H,g,u,m,G⟩=bp ⟨a,b,c,d,q,H,g,u,m,G⟩ [.mk 15 n W [] [x] [] [],bt (aL 7 W) (bt x (aL 4 n))]:=by unfold aH;rw[Mo];rfl
 rw[e];have Yj:bE (bt (aL 7 W) (bt x (aL 4 n))) (.mk 11 [.mk 7 [],.mk 11 [t,.mk 4 []]])=true/\eC (bt (aL 7 W) (bt x (aL 4 n)))=true :=
  jR (lT (.inr (.inr (.inr (.inr ⟨Z,N⟩))))) (jR I (lT (.inr (.inr (.inl ⟨Z,bn,E.2⟩)))))
 have Vu:=bz p;have YA:=bz (Co p);obtain⟨D,K,C,s3,eZ,cI,dF⟩:=x;exact⟨jc _ _ 2 V 85 P _ [_] q _ cc (by rw[Mo];rfl) (by show List.length (Vl.mk 15 n W [] [.mk D K C s3 eZ cI dF] [] []::q)<=_;simp only[aac];omega) (K1 ⟨a,b,c,d,q,H,g,u,m,G⟩ V P 15 n W [] [] [] [] D K C s3 eZ cI dF bn c9),F8 (S:=⟨a,b,c,d,q,H,g,u,m,G⟩) (eW Vu Yj) (eW YA (tU E N I)) hq⟩
def Rh{n a:Int}{x:Vl}{t:Ty}{ts:L Ty}(E:0<=n/\n<=bL)(W:0<=a/\a<12)(p:br t=true)(h:bE x t=true/\eC x=true):bE (.mk 8 n a [] [x] [t] []) (.mk 8 ts)=true/\eC (.mk 8 n a [] [x] [t] [])=true:=by
 simp[bE,cq,bM,aP,eC,eg,h,E,W,p]
def Cz(S:b9)(hE:mJ S.self S.gv S.gw S.balance=true)(hm:0<=S.bG/\S.bG<=bL)(N:Int)(M:L UInt8)(J:L Nd)(hz:aS J<=8589934593)(W s:L Ty)(r:L Ty×Bool)(hf:bJ 88 J=some W)(K:dH s S.st)(hl:s.length<=340)(hg:r.1.all br=true)(A:bU 88 W s=(r,0)):bf N M 88 J S/\bK S r (aH 88 J S):=by
 obtain⟨a,b,c,d,st,H,g,u,m,G⟩:=S;obtain⟨x,rfl,hx,rfl⟩:=zh hf cc;have D:=bF K;simp only at K D hE hm;rcases s with _|⟨B,_|⟨t2,_|⟨t3,s⟩⟩⟩
 ·cases A
 ·cases A
 ·cases A
 obtain⟨v,q0,rfl,hv,qo⟩:=bh K;obtain⟨w,q1,rfl,hw,Vf⟩:=bh qo;obtain⟨y,q,rfl,hy,hq⟩:=bh Vf;have f1:=cN hv.1;have f2:=cN hw.1;have f3:=cN hy.1;obtain⟨T2,AP⟩:=t2;obtain⟨T3,YE⟩:=t3;simp only[aac]at D hl;have I:(if T2=5/\T3=7/\cP B (aW x).1=true/\iV B=true then dX (.mk 8 []::s)else aM 5)=(r,0):=A;split at I;rotate_left
 ·cases I
 rename_i c1;cases I;obtain⟨rfl,rfl,c3,_⟩:=c1;have et:=(fS _ _).1 c3;obtain⟨n,rfl,g2⟩:=fy cc f2.2.1;obtain⟨p,rfl,g3⟩:=fy cc f3.2.1;have r2:=jd cc g2;have E:=r2.2 cc;have ZZ:=(K2 g3).2.2.2.2 Z;simp only[aS]at hz;unfold bf;have e:aH 88 [x] ⟨a,b,c,d,v::aL 5 n::aL 7 p::q,H,g,u,m,G⟩=bp ⟨a,b,c,d,q,H,g,u,m,G⟩ [.mk 8 n p [] [v] [(aW x).1] []]:=by unfold aH;rw[Mr];rfl
 rw[e];have hsz:=hv.2;have pG:=f1.2;have V:=f1.1;rw[et]at pG V;have htz:=(cG V).2;obtain⟨C,U,T,Q,Y,P,O⟩:=v;exact⟨jc _ _ 2 N 88 M _ [_,_,_] q _ cc (by rw[Mr];rfl) (by show List.length (Vl.mk C U T Q Y P O::aL 5 n::aL 7 p::q)<=_;simp only[aac];omega) (CA ⟨a,b,c,d,q,H,g,u,m,G⟩ N M C U T Q Y P O 5 n 0 [] [] [] [] 7 p 0 [] [] [] [] x bn (by show aO (.mk 8 n p [] [_] [_] [])<=_;rw[show aO (.mk 8 n p [] [.mk C U T Q Y P O] [(aW x).1] [])=0+(aO (.mk C U T Q Y P O)+0)+(bw (aW x).1+0)+0+1 from rfl];omega) c9),bX (S:=⟨a,b,c,d,q,H,g,u,m,G⟩) (eW (bz hg) (Rh ⟨E,r2.1.2⟩ ZZ V pG)) hq⟩
def II(S:b9)(hE:mJ S.self S.gv S.gw S.balance=true)(hm:0<=S.bG/\S.bG<=bL)(T:Int)(P:L UInt8)(J:L Nd)(hz:aS J<=8589934593)(Y s:L Ty)(r:L Ty×Bool)(hf:bJ 86 J=some Y)(N:dH s S.st)(hl:s.length<=340)(B:r.1.all br=true)(A:bU 86 Y s=(r,0)):bf T P 86 J S/\bK S r (aH 86 J S):=by
 obtain⟨a,b,c,d,st,H,g,u,m,G⟩:=S;obtain⟨rfl,rfl⟩:=cC hf cc;have eu:=bF N;simp only at N eu hE hm;rcases s with _|⟨t1,_|⟨t2,s⟩⟩
 ·cases A
 ·cases A
 obtain⟨v,q0,rfl,hv,qo⟩:=bh N;obtain⟨w,q,rfl,hw,hq⟩:=bh qo;have M:=cN hv.1;have p:=cN hw.1;obtain⟨K,Ee⟩:=t1;obtain⟨I,AP⟩:=t2;simp only[aac]at eu hl;have E:(if K=15/\I=11/\bM (aD (.mk I AP) 0)=4/\bM (aD (.mk I AP) 1)=4 then dX (.mk 9 [.mk 11 [.mk K Ee,.mk K Ee]]::s)else aM 5)=(r,0):=A;split at E;rotate_left
 ·cases E
 rename_i c1;cases E;obtain⟨rfl,rfl,c3,c4⟩:=c1;obtain⟨t,rfl,Mw⟩:=eN (cG M.1) cc;obtain⟨⟨U1,NQ⟩,⟨U2,Zi⟩,rfl,R9,ok3⟩:=eD (cG p.1) cc;have D:U1=4:=c3;have C:U2=4:=c4;subst D C;obtain⟨n,W,x,rfl,hn,ha,hx⟩:=xN M.2.1 M.2.2;obtain⟨y,z,rfl,hy,Pg⟩:=tV p.2.1 p.2.2;obtain⟨i,rfl,gi⟩:=fy cc hy.1;obtain⟨j,rfl,gj⟩:=fy cc Pg.1;have V:=jd cc gi;have U:=jd cc gj;have Q:=V.2 cc;have O:=U.2 cc;have hsz:=hv.2;unfold bf;have e:aH 86 [] ⟨a,b,c,d,.mk 15 n W [] [x] [] []::bt (aL 4 i) (aL 4 j)::q,H,g,u,m,G⟩=(if i<1\/j<1\/i+j≠n then bp ⟨a,b,c,d,q,H,g,u,m,G⟩ [cw []]else bp ⟨a,b,c,d,q,H,g,u,m,G⟩ [cw [bt (.mk 15 i W [] [x] [] []) (.mk 15 j W [] [x] [] [])]]):=by unfold aH;rw[Mp];rfl
 rw[e];have hk:∀(e:Int)(S':b9),cz 140 ⟨a,b,c,d,q,H,g,u,m,G⟩ [.c (aY (.mk 2 T 86 P [])),.c (.sl 7 (aa [.mk 15 n W [] [x] [] [],bt (aL 4 i) (aL 4 j)]))] (aE e) S'->cz 109 ⟨a,b,c,d,.mk 15 n W [] [x] [] []::bt (aL 4 i) (aL 4 j)::q,H,g,u,m,G⟩ [.c (aY (.mk 2 T 86 P []))] (aE e) S':=λe S' h =>
  jc _ _ 2 T 86 P _ [_,_] q _ cc (by rw[Mp];rfl) (by show List.length (Vl.mk 15 n W [] [x] [] []::bt (aL 4 i) (aL 4 j)::q)<=_;simp only[aac];omega) h
 by_cases h:i<1\/j<1\/i+j≠n
 ·rw[if_pos h];refine⟨hk _ _ ?_,bX (S:=⟨a,b,c,d,q,H,g,u,m,G⟩) (eW (bz B) lU) hq⟩;by_cases h1:i<1
  ·exact DF ⟨a,b,c,d,q,H,g,u,m,G⟩ T P 15 n W [] [x] [] [] 11 0 0 [] [] [] [] 4 i 0 [] [] [] [] 4 j 0 [] [] [] [] ⟨Q,V.1.2⟩ ⟨O,U.1.2⟩ h1 c9
  by_cases h2:j<1
  ·exact DG ⟨a,b,c,d,q,H,g,u,m,G⟩ T P 15 n W [] [x] [] [] 11 0 0 [] [] [] [] 4 i 0 [] [] [] [] 4 j 0 [] [] [] [] ⟨Q,V.1.2⟩ ⟨O,U.1.2⟩ h1 h2 c9
  ·exact DH ⟨a,b,c,d,q,H,g,u,m,G⟩ T P 15 n W [] [x] [] [] 11 0 0 [] [] [] [] 4 i 0 [] [] [] [] 4 j 0 [] [] [] [] ⟨Q,V.1.2⟩ ⟨O,U.1.2⟩ h1 h2 bn c9
 ·rw[if_neg h];exact⟨hk _ _ (F9 ⟨a,b,c,d,q,H,g,u,m,G⟩ T P 15 n W [] [x] [] [] 11 0 0 [] [] [] [] 4 i 0 [] [] [] [] 4 j 0 [] [] [] [] ⟨Q,V.1.2⟩ ⟨O,U.1.2⟩ h bn c9),bX (S:=⟨a,b,c,d,q,H,g,u,m,G⟩) (eW (bz B) (hD (jR (tU ⟨bn,V.1.2⟩ ha hx) (tU ⟨bn,U.1.2⟩ ha hx)))) hq⟩
def K3(S:b9)(hE:mJ S.self S.gv S.gw S.balance=true)(hm:0<=S.bG/\S.bG<=bL)(P:Int)(O:L UInt8)(J:L Nd)(hz:aS J<=8589934593)(Q s:L Ty)(r:L Ty×Bool)(hf:bJ 87 J=some Q)(hs:dH s S.st)(hl:s.length<=340)(hg:r.1.all br=true)(hc:bU 87 Q s=(r,0)):bf P O 87 J S/\bK S r (aH 87 J S):=by
 obtain⟨a,b,c,d,st,H,g,u,m,G⟩:=S;obtain⟨rfl,rfl⟩:=cC hf cc;have eu:=bF hs;simp only at hs eu hE hm;cases s with
 |nil=>cases hc
 |cons t s =>
 obtain⟨v,q,rfl,hv,hq⟩:=bh hs;have B:=cN hv.1;simp only[aac]at eu hl;obtain⟨T,ts⟩:=t;have dh:(if T=11/\bM (aD (.mk T ts) 0)=15/\cP (aD (.mk T ts) 0) (aD (.mk T ts) 1)=true then dX (.mk 9 [aD (.mk T ts) 0]::s)else aM 5)=(r,0):=hc;split at dh;rotate_left
 ·cases dh
 rename_i c1;obtain⟨rfl,c2,c3⟩:=c1;obtain⟨⟨U1,NQ⟩,t2,rfl,R9,ok3⟩:=eD (cG B.1) cc;cases dh;have WU:U1=15:=c2;subst WU;have et:Ty.mk 15 NQ=t2:=(fS _ _).1 c3;subst et;obtain⟨t,rfl,Mw⟩:=eN R9 cc;obtain⟨X,Y,rfl,hX,hY⟩:=tV B.2.1 B.2.2;obtain⟨V,W,x,rfl,hn2,UW,hx⟩:=xN hX.1 hX.2;obtain⟨U,A,y,rfl,YF,ha4,hy⟩:=xN hY.1 hY.2;have hsz:=hv.2;rw[show aO (bt (.mk 15 V W [] [x] [] []) (.mk 15 U A [] [y] [] []))=0+((0+(aO x+0)+0+0+1)+((0+(aO y+0)+0+0+1)+0))+0+0+1 from rfl]at hsz;have Dg:=di (gT (lq B.1)).2 (show Ty.mk 15 [t]∈aq (.mk 11 [.mk 15 [t],.mk 15 [t]])by simp[aq]);have OQ:=di (gT Dg).2 (show t∈aq (.mk 15 [t])by simp[aq]);have XK:=xO x y t OQ hx.1 hy.1 bn;unfold bf;have e:aH 87 [] ⟨a,b,c,d,bt (.mk 15 V W [] [x] [] []) (.mk 15 U A [] [y] [] [])::q,H,g,u,m,G⟩=(if W≠A\/dj x y≠0 then bp ⟨a,b,c,d,q,H,g,u,m,G⟩ [cw []]else if V>bL-U then(11,⟨a,b,c,d,q,H,g,u,m,G⟩)else bp ⟨a,b,c,d,q,H,g,u,m,G⟩ [cw [.mk 15 (V+U) W [] [x] [] []]]):=by unfold aH;rw[Mq];rfl
 rw[e];have hk:∀(e:Int)(S':b9),cz 140 ⟨a,b,c,d,q,H,g,u,m,G⟩ [.c (aY (.mk 2 P 87 O [])),.c (.sl 7 (aa [bt (.mk 15 V W [] [x] [] []) (.mk 15 U A [] [y] [] [])]))] (aE e) S'->cz 109 ⟨a,b,c,d,bt (.mk 15 V W [] [x] [] []) (.mk 15 U A [] [y] [] [])::q,H,g,u,m,G⟩ [.c (aY (.mk 2 P 87 O []))] (aE e) S':=λe S' h =>
  jc _ _ 2 P 87 O _ [_] q _ cc (by rw[Mq];rfl) (by show List.length (bt (.mk 15 V W [] [x] [] []) (.mk 15 U A [] [y] [] [])::q)<=_;simp only[aac];omega) h
 have hX2:=λN (hN:1<=N/\N<=bL)=>tU (n:=N) hN UW hx;generalize pG:dj x y=cv at *;have acJ:aO x<=1000000000:=by omega
 clear hsz hv B hX hY hs hc;obtain⟨D,I,M,p,K,E,C⟩:=x;obtain⟨k5,n5,a5,s5,jy,gI,jz⟩:=y;by_cases h:W≠A\/cv≠0
 ·rw[if_pos h];refine⟨hk _ _ ?_,bX (S:=⟨a,b,c,d,q,H,g,u,m,G⟩) (eW (bz hg) lU) hq⟩;by_cases h1:W≠A
  ·exact IJ ⟨a,b,c,d,q,H,g,u,m,G⟩ P O 11 0 0 [] [] [] [] 15 V W [] [] [] [] D I M p K E C 15 U A [] [] [] [] k5 n5 a5 s5 jy gI jz h1 c9
  ·exact IK ⟨a,b,c,d,q,H,g,u,m,G⟩ P O 11 0 0 [] [] [] [] 15 V W [] [] [] [] D I M p K E C 15 U A [] [] [] [] k5 n5 a5 s5 jy gI jz cv XK bn bn c9
 ·rw[if_neg h];have h1:W=A:=by omega
  have h2:cv=0:=by omega
  subst h2;by_cases h3:V>bL-U
  ·rw[if_pos h3];exact⟨hk _ _ (IL ⟨a,b,c,d,q,H,g,u,m,G⟩ P O 11 0 0 [] [] [] [] 15 V W [] [] [] [] D I M p K E C 15 U A [] [] [] [] k5 n5 a5 s5 jy gI jz XK h1 ⟨bn,hn2.2⟩ ⟨bn,YF.2⟩ h3 c9),.inr (.inl Z)⟩
  ·rw[if_neg h3];exact⟨hk _ _ (IM ⟨a,b,c,d,q,H,g,u,m,G⟩ P O 11 0 0 [] [] [] [] 15 V W [] [] [] [] D I M p K E C 15 U A [] [] [] [] k5 n5 a5 s5 jy gI jz XK h1 ⟨bn,hn2.2⟩ ⟨bn,YF.2⟩ h3 (by rw[show aO (.mk 15 V W [] [.mk D I M p K E C] [] [])=0+(aO (.mk D I M p K E C)+0)+0+0+1 from rfl];omega) c9),bX (S:=⟨a,b,c,d,q,H,g,u,m,G⟩) (eW (bz hg) (hD (hX2 _ ⟨bn,bn⟩))) hq⟩
end Go.Proofs
