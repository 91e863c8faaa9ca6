/- Run of package run. -/
import Derived.Test.YtdnpapgijbhofaaGreatDoorRunH
import Derived.Test.YtdnpapgijbhofaaGreatDoorFits
open Go.Proofs.Tryz
set_option linter.defProp false
set_option maxHeartbeats 0
set_option linter.unusedVariables false
set_option linter.unusedSimpArgs false
set_option maxRecDepth 100000
namespace Go.Proofs
open Go.cw
def mW(c:Int)(st:L Vl)(Q:Vl)(g mt:Int):CV := .agg [ag c,.sl 7 (aa st),ag (vK Q),ag (vN Q),ag (xA Q),.str (vS Q),.sl 7 (aa (ez Q)),.sl 2 (az (Iw Q)),.sl 5 (aD (Ec Q)),ag g,ag mt]
attribute [local irreducible] AK ah aR bM cn cX
def mCz(S:bZ)(b:Nat):L AV:=[.c (ag S.self),.c (ag S.iY),.c (ag S.iZ),.c (ag S.balance),.c (.sl 7 (aa S.st)),.gY b 0 4 S.fr.length,.c (ag S.bU),.c (ag S.used),.c (ag S.au),
 .c (ag (vK S.said)),.c (ag (vN S.said)),.c (ag (xA S.said)),.c (.str (vS S.said)),.c (.sl 7 (aa (ez S.said))),.c (.sl 2 (az (Iw S.said))),.c (.sl 5 (aD (Ec S.said)))]
def Ng(a b c d g:Int)(code:L Nd)(x:Vl)(q:L Vl)(W:bZ)(hq:q.length<=1000000000)(U:W.st.length<=1000000000)
  (M:cH 85 ⟨a,b,c,d,x::q,[⟨code,0,0,[]⟩],g,0,0,lC⟩ [] (ag 0) W) :
  af 62 [.agg [ag a,ag b,ag c,ag d],.sl 5 (aD code),.sl 7 (aa (x::q)),ag g] (mW 0 W.st lC W.used W.au):=by
 have E:=fW x q ai;have V:=kK (x::q) cS;have Y:=kK W.st.reverse aa7;rw[abW,ahf]at Y;have B:∀x,V7 100027 7 (aa W.st) x x:=λ_ => .inl Z;refine qn func62 call62 λβ hf=>?_
 repeat' ((fail_if_success (refine mw 3 ?_));first|refine ah.jJ Tryz.hX kn Z Z Z Z Z Z Z Z Z Z Z Z Z Z ?_|refine sz ?_|refine zc ?_ ?_|(intro h;first|(cases h;done)|rw[h]|skip)|refine ah.mU kn Z Z Z Z Z Z E Z ?_|refine ah.sF kn Z Z Z Z Z Z Z V Z ?_)
 refine AK.fY [(8,8),(3000,20),(3001,14),(3002,18)] [] (env':=[(8,.ptr 8 0),(9,.ptr 3000 0)]) (bs':=[(8,[.c (ag 0),.c (.sl 7 (aa [])),.c (ag 0),.c (ag 0),.c (ag 0),.c (.str []),.c (.sl 7 (aa [])),.c (.sl 2 (az [])),.c (.sl 5 (aD [])),.c (ag 0),.c (ag 0)]),(3000,mC ⟨a,b,c,d,(x::q),[⟨code,0,0,[]⟩],g,0,0,lC⟩ 3001 3002),(3001,ak (sR (x::q))),(3002,ak (fR [⟨code,0,0,[]⟩]))]) (ts':=[]) (us':=[8,3000,3001,3002]) ce ⟨ce,ce,⟨_,_,Z,Z,cJ _⟩,⟨_,_,Z,Z,cJ _⟩,trivial⟩ Z ?_
 repeat' ((fail_if_success (refine mw 8 ?_));first|refine sz ?_|refine zc ?_ ?_|(intro h;first|(cases h;done)|rw[h]|skip)|refine v8 ?_ (hq:=M)|refine ah.sF kn Z Z Z Z Z Z Z Y Z ?_)
 refine AK.y9 100027 7 (aa W.st) (tail:=[]) (env':=[(8,.ptr 8 0),(9,.ptr 3000 0),(10,.c (ag 0)),(11,.ptr 11 0)]) (ts':=[])
  (bs':=[(8,[.c (ag 0),.c (.sl 7 (aa [])),.c (ag 0),.c (ag 0),.c (ag 0),.c (.str []),.c (.sl 7 (aa [])),.c (.sl 2 (az [])),.c (.sl 5 (aD [])),.c (ag 0),.c (ag 0)]),(11,[.c (ag 0),.own .exact 7 [],.c (ag 0),.c (ag 0),.c (ag 0),.c (.str []),.own .exact 7 [],.own .exact 2 [],.own .exact 5 [],.c (ag W.used),.c (ag W.au)]),(3000,mCz W 200027)]) Z (aeO _).symm (iy _) ce ⟨⟨_,Z,wS B _⟩,⟨_,Z,wS B _⟩,⟨_,Z,⟨B _,B _,B _,B _,.inr ⟨_,Z,(aB _).symm,Z⟩,wS B _⟩⟩,trivial⟩ Z trivial ?_
 exact dq
def Iv(a b c d g:Int)(code:L Nd)(x:Vl)(q:L Vl)(W:bZ)(hq:q.length<=1000000000)
  (M:cH 85 ⟨a,b,c,d,x::q,[⟨code,0,0,[]⟩],g,0,0,lC⟩ [] (ag 10) W) :
  af 62 [.agg [ag a,ag b,ag c,ag d],.sl 5 (aD code),.sl 7 (aa (x::q)),ag g] (mW 10 [] W.said W.used 0):=by
 have E:=fW x q ai;have Y:=kK (x::q) cS;refine qn func62 call62 λβ hf=>?_
 repeat' ((fail_if_success (refine mw 3 ?_));first|refine ah.jJ Tryz.hX kn Z Z Z Z Z Z Z Z Z Z Z Z Z Z ?_|refine sz ?_|refine zc ?_ ?_|(intro h;first|(cases h;done)|rw[h]|skip)|refine ah.mU kn Z Z Z Z Z Z E Z ?_|refine ah.sF kn Z Z Z Z Z Z Z Y Z ?_)
 refine AK.fY [(8,8),(3000,20),(3001,14),(3002,18)] [] (env':=[(8,.ptr 8 0),(9,.ptr 3000 0)]) (bs':=[(8,[.c (ag 0),.c (.sl 7 (aa [])),.c (ag 0),.c (ag 0),.c (ag 0),.c (.str []),.c (.sl 7 (aa [])),.c (.sl 2 (az [])),.c (.sl 5 (aD [])),.c (ag 0),.c (ag 0)]),(3000,mC ⟨a,b,c,d,(x::q),[⟨code,0,0,[]⟩],g,0,0,lC⟩ 3001 3002),(3001,ak (sR (x::q))),(3002,ak (fR [⟨code,0,0,[]⟩]))]) (ts':=[]) (us':=[8,3000,3001,3002]) ce ⟨ce,ce,⟨_,_,Z,Z,cJ _⟩,⟨_,_,Z,Z,cJ _⟩,trivial⟩ Z ?_
 repeat' (first|refine sz ?_|refine zc ?_ ?_|(intro h;first|(cases h;done)|rw[h]|skip)|refine v8 ?_ (hq:=M))
 all_goals rfl
def KP(a b c d g e:Int)(code:L Nd)(x:Vl)(q:L Vl)(W:bZ)(hq:q.length<=1000000000)(Y:e≠0)(E:e≠10)
  (M:cH 85 ⟨a,b,c,d,x::q,[⟨code,0,0,[]⟩],g,0,0,lC⟩ [] (ag e) W) :
  af 62 [.agg [ag a,ag b,ag c,ag d],.sl 5 (aD code),.sl 7 (aa (x::q)),ag g] (mW e [] lC W.used 0):=by
 have U:=fW x q ai;have V:=kK (x::q) cS;have u:(e==0)=false:=beq_eq_false_iff_ne.2 Y;have K:(e==10)=false:=beq_eq_false_iff_ne.2 E;have T:(e != 0)=true:=by simpa using Y
 refine qn func62 call62 λβ hf=>?_
 repeat' ((fail_if_success (refine mw 3 ?_));first|refine ah.jJ Tryz.hX kn Z Z Z Z Z Z Z Z Z Z Z Z Z Z ?_|refine sz ?_|refine zc ?_ ?_|(intro h;first|(cases h;done)|rw[h]|skip)|refine ah.mU kn Z Z Z Z Z Z U Z ?_|refine ah.sF kn Z Z Z Z Z Z Z V Z ?_)
 refine AK.fY [(8,8),(3000,20),(3001,14),(3002,18)] [] (env':=[(8,.ptr 8 0),(9,.ptr 3000 0)]) (bs':=[(8,[.c (ag 0),.c (.sl 7 (aa [])),.c (ag 0),.c (ag 0),.c (ag 0),.c (.str []),.c (.sl 7 (aa [])),.c (.sl 2 (az [])),.c (.sl 5 (aD [])),.c (ag 0),.c (ag 0)]),(3000,mC ⟨a,b,c,d,(x::q),[⟨code,0,0,[]⟩],g,0,0,lC⟩ 3001 3002),(3001,ak (sR (x::q))),(3002,ak (fR [⟨code,0,0,[]⟩]))]) (ts':=[]) (us':=[8,3000,3001,3002]) ce ⟨ce,ce,⟨_,_,Z,Z,cJ _⟩,⟨_,_,Z,Z,cJ _⟩,trivial⟩ Z ?_
 repeat' (first|refine sz ?_|refine zc ?_ ?_|(intro h;first|(cases h;done)|rw[h]|skip)|refine v8 ?_ (hq:=M))
 all_goals rfl
def Nf(a b c d g:Int)(code:L Nd)(W:bZ)(U:W.st.length<=1000000000)
  (M:cH 85 ⟨a,b,c,d,[],[⟨code,0,0,[]⟩],g,0,0,lC⟩ [] (ag 0) W) :
  af 62 [.agg [ag a,ag b,ag c,ag d],.sl 5 (aD code),.sl 7 (aa ([])),ag g] (mW 0 W.st lC W.used W.au):=by
 have Y:=kK [] (aeW _);have V:=kK W.st.reverse aa7;rw[abW,ahf]at V;have B:∀x,V7 100027 7 (aa W.st) x x:=λ_ => .inl Z;refine qn func62 call62 λβ hf=>?_
 repeat' ((fail_if_success (refine mw 2 ?_));first|refine ah.jJ Tryz.hX kn Z Z Z Z Z Z Z Z Z Z Z Z Z Z ?_|refine sz ?_|refine zc ?_ ?_|(intro h;first|(cases h;done)|rw[h]|skip)|refine ah.A2 kn Z Z (kW 7) Z Z (λ_=>⟨_,_,Z,.inr Z,Z⟩) Z Z ?_|refine ah.sF kn Z Z Z Z Z Z Z Y Z ?_)
 refine AK.empty 20 4 7 [.c (ag a),.c (ag b),.c (ag c),.c (ag d)] _ Z Z Z Z ?_;refine AK.yu 4 [] _ Z (afM _).symm Z ?_
 repeat' ((fail_if_success (refine mw 3 ?_));first|refine sz ?_|refine zc ?_ ?_|(intro h;first|(cases h;done)|rw[h]|skip)|refine ah.sF kn Z Z Z Z Z Z Z Y Z ?_)
 refine AK.fY [(8,8),(3000,20),(3001,4),(3002,18)] [] (env':=[(8,.ptr 8 0),(9,.ptr 3000 0)]) (bs':=[(8,[.c (ag 0),.c (.sl 7 (aa [])),.c (ag 0),.c (ag 0),.c (ag 0),.c (.str []),.c (.sl 7 (aa [])),.c (.sl 2 (az [])),.c (.sl 5 (aD [])),.c (ag 0),.c (ag 0)]),(3000,mC ⟨a,b,c,d,[],[⟨code,0,0,[]⟩],g,0,0,lC⟩ 3001 3002),(3001,ak (sR [])),(3002,ak (fR [⟨code,0,0,[]⟩]))]) (ts':=[]) (us':=[8,3000,3001,3002]) ce ⟨ce,ce,⟨_,_,Z,Z,cJ _⟩,⟨_,_,Z,Z,cJ _⟩,trivial⟩ Z ?_
 repeat' ((fail_if_success (refine mw 8 ?_));first|refine sz ?_|refine zc ?_ ?_|(intro h;first|(cases h;done)|rw[h]|skip)|refine v8 ?_ (hq:=M)|refine ah.sF kn Z Z Z Z Z Z Z V Z ?_)
 refine AK.y9 100027 7 (aa W.st) (tail:=[]) (env':=[(8,.ptr 8 0),(9,.ptr 3000 0),(10,.c (ag 0)),(11,.ptr 11 0)]) (ts':=[])
  (bs':=[(8,[.c (ag 0),.c (.sl 7 (aa [])),.c (ag 0),.c (ag 0),.c (ag 0),.c (.str []),.c (.sl 7 (aa [])),.c (.sl 2 (az [])),.c (.sl 5 (aD [])),.c (ag 0),.c (ag 0)]),(11,[.c (ag 0),.own .exact 7 [],.c (ag 0),.c (ag 0),.c (ag 0),.c (.str []),.own .exact 7 [],.own .exact 2 [],.own .exact 5 [],.c (ag W.used),.c (ag W.au)]),(3000,mCz W 200027)]) Z (aeO _).symm (iy _) ce ⟨⟨_,Z,wS B _⟩,⟨_,Z,wS B _⟩,⟨_,Z,⟨B _,B _,B _,B _,.inr ⟨_,Z,(aB _).symm,Z⟩,wS B _⟩⟩,trivial⟩ Z trivial ?_
 exact dq
def Iu(a b c d g:Int)(code:L Nd)(W:bZ)
  (M:cH 85 ⟨a,b,c,d,[],[⟨code,0,0,[]⟩],g,0,0,lC⟩ [] (ag 10) W) :
  af 62 [.agg [ag a,ag b,ag c,ag d],.sl 5 (aD code),.sl 7 (aa ([])),ag g] (mW 10 [] W.said W.used 0):=by
 have Y:=kK [] (aeW _);refine qn func62 call62 λβ hf=>?_
 repeat' ((fail_if_success (refine mw 2 ?_));first|refine ah.jJ Tryz.hX kn Z Z Z Z Z Z Z Z Z Z Z Z Z Z ?_|refine sz ?_|refine zc ?_ ?_|(intro h;first|(cases h;done)|rw[h]|skip)|refine ah.A2 kn Z Z (kW 7) Z Z (λ_=>⟨_,_,Z,.inr Z,Z⟩) Z Z ?_|refine ah.sF kn Z Z Z Z Z Z Z Y Z ?_)
 refine AK.empty 20 4 7 [.c (ag a),.c (ag b),.c (ag c),.c (ag d)] _ Z Z Z Z ?_;refine AK.yu 4 [] _ Z (afM _).symm Z ?_
 repeat' ((fail_if_success (refine mw 3 ?_));first|refine sz ?_|refine zc ?_ ?_|(intro h;first|(cases h;done)|rw[h]|skip)|refine ah.sF kn Z Z Z Z Z Z Z Y Z ?_)
 refine AK.fY [(8,8),(3000,20),(3001,4),(3002,18)] [] (env':=[(8,.ptr 8 0),(9,.ptr 3000 0)]) (bs':=[(8,[.c (ag 0),.c (.sl 7 (aa [])),.c (ag 0),.c (ag 0),.c (ag 0),.c (.str []),.c (.sl 7 (aa [])),.c (.sl 2 (az [])),.c (.sl 5 (aD [])),.c (ag 0),.c (ag 0)]),(3000,mC ⟨a,b,c,d,[],[⟨code,0,0,[]⟩],g,0,0,lC⟩ 3001 3002),(3001,ak (sR [])),(3002,ak (fR [⟨code,0,0,[]⟩]))]) (ts':=[]) (us':=[8,3000,3001,3002]) ce ⟨ce,ce,⟨_,_,Z,Z,cJ _⟩,⟨_,_,Z,Z,cJ _⟩,trivial⟩ Z ?_
 repeat' (first|refine sz ?_|refine zc ?_ ?_|(intro h;first|(cases h;done)|rw[h]|skip)|refine v8 ?_ (hq:=M))
 all_goals rfl
def KO(a b c d g e:Int)(code:L Nd)(W:bZ)(Y:e≠0)(E:e≠10)
  (M:cH 85 ⟨a,b,c,d,[],[⟨code,0,0,[]⟩],g,0,0,lC⟩ [] (ag e) W) :
  af 62 [.agg [ag a,ag b,ag c,ag d],.sl 5 (aD code),.sl 7 (aa ([])),ag g] (mW e [] lC W.used 0):=by
 have V:=kK [] (aeW _);have u:(e==0)=false:=beq_eq_false_iff_ne.2 Y;have K:(e==10)=false:=beq_eq_false_iff_ne.2 E;have T:(e != 0)=true:=by simpa using Y
 refine qn func62 call62 λβ hf=>?_
 repeat' ((fail_if_success (refine mw 2 ?_));first|refine ah.jJ Tryz.hX kn Z Z Z Z Z Z Z Z Z Z Z Z Z Z ?_|refine sz ?_|refine zc ?_ ?_|(intro h;first|(cases h;done)|rw[h]|skip)|refine ah.A2 kn Z Z (kW 7) Z Z (λ_=>⟨_,_,Z,.inr Z,Z⟩) Z Z ?_|refine ah.sF kn Z Z Z Z Z Z Z V Z ?_)
 refine AK.empty 20 4 7 [.c (ag a),.c (ag b),.c (ag c),.c (ag d)] _ Z Z Z Z ?_;refine AK.yu 4 [] _ Z (afM _).symm Z ?_
 repeat' ((fail_if_success (refine mw 3 ?_));first|refine sz ?_|refine zc ?_ ?_|(intro h;first|(cases h;done)|rw[h]|skip)|refine ah.sF kn Z Z Z Z Z Z Z V Z ?_)
 refine AK.fY [(8,8),(3000,20),(3001,4),(3002,18)] [] (env':=[(8,.ptr 8 0),(9,.ptr 3000 0)]) (bs':=[(8,[.c (ag 0),.c (.sl 7 (aa [])),.c (ag 0),.c (ag 0),.c (ag 0),.c (.str []),.c (.sl 7 (aa [])),.c (.sl 2 (az [])),.c (.sl 5 (aD [])),.c (ag 0),.c (ag 0)]),(3000,mC ⟨a,b,c,d,[],[⟨code,0,0,[]⟩],g,0,0,lC⟩ 3001 3002),(3001,ak (sR [])),(3002,ak (fR [⟨code,0,0,[]⟩]))]) (ts':=[]) (us':=[8,3000,3001,3002]) ce ⟨ce,ce,⟨_,_,Z,Z,cJ _⟩,⟨_,_,Z,Z,cJ _⟩,trivial⟩ Z ?_
 repeat' (first|refine sz ?_|refine zc ?_ ?_|(intro h;first|(cases h;done)|rw[h]|skip)|refine v8 ?_ (hq:=M))
 all_goals rfl
end Go.Proofs
namespace Go.Proofs
open Go.cw
def Nu(n:Int):Bool:=bif decide (n>=0)then decide (n<=1152921504606846976)else false
def Nt(n:Int):Bool:=bif decide (n>=0)then decide (n<12)else false
def qU(a b c d:Int):Bool:=bif (bif (bif Nt a then Nt b else false)then Nu c else false)then Nu d else false
attribute [local irreducible] AK ah aR bM cn cX
def J3(n:Int):af 81 [ag n] (.bool (Nu n)):=by
 unfold Nu;cases Y:decide (n>=0)with
 |false =>
  exact qdq func81 call81
 |true =>
  exact qdq func81 call81
def J4(n:Int):af 82 [ag n] (.bool (Nt n)):=by
 unfold Nt;cases Y:decide (n>=0)with
 |false =>
  exact qdq func82 call82
 |true =>
  exact qdq func82 call82
def Ef(a b c d:Int):af 61 [.agg [ag a,ag b,ag c,ag d]] (.bool (qU a b c d)):=by have h1:=J4 a;have h2:=J4 b;have K:=J3 c;have Y:=J3 d;unfold qU;generalize Nt a=J at *;generalize Nt b=Q at *;generalize Nu c=O at *;generalize Nu d=x4 at *;cases J;exact qdq func61 call61;cases Q;exact qdq func61 call61;cases O;exact qdq func61 call61;exact qdq func61 call61
def zX:L Ty->L Vl->Bool
 |t::s,v::l=>gN t v&&zX s l
 |_,_=>true
def Vd{s:L Ty}{l:L Vl}{j:Nat}{t:Ty}{v:Vl}(h1:s[j]?=some t)(h2:l[j]?=some v):zX (s.drop j) (l.drop j)=(gN t v&&zX (s.drop (j+1)) (l.drop (j+1))):=by rw[dK h1,dK h2];rfl
attribute [local irreducible] ke gN
def Z6(a b c d g:Int)(n:Nd)(B:bD n<=8589934593)(s:L Ty)(C:bp s<=8589934593)(l:L Vl)(h:¬((ke n s).2=0/\s.length=l.length/\qU a b c d=true)) :
  af 33 [.agg [ag a,ag b,ag c,ag d],aM n,.sl 2 (az s),.sl 7 (aa l),ag g] (mW 14 [] lC 0 0):=by
 have h1:=vQ n s B C;have h2:=Ef a b c d;have Y:=aQ s;have W:=aB l;generalize qU a b c d=V at *;generalize ke n s=r at *;obtain⟨⟨t,f⟩,e⟩:=r;obtain⟨J,M,U,Q,N⟩:=n;simp only at h;by_cases O:e=0;rotate_left
 ·have u:(e != 0)=true:=by simpa using O
  clear h h2;exact qdq func33 call33
 subst O;by_cases I:s.length=l.length;rotate_left
 ·have u:((((az s).length:Nat):Int) != (((aa l).length:Nat):Int))=true:=by rw[aiC];omega
  clear h h2;exact qdq func33 call33
 have u:((((az s).length:Nat):Int) != (((aa l).length:Nat):Int))=false:=by rw[Y,W,I];exact ahS _
 cases V with
 |true=>exact absurd ⟨Z,I,Z⟩ h
 |false =>
  clear h;exact qdq func33 call33
def Z7(a b c d g:Int)(n:Nd)(A:bD n<=8589934593)(s:L Ty)(u:bp s<=8589934593)(l:L Vl)(hv:aI l<=8589934593)(J:(ke n s).2=0)(I:s.length=l.length)(hf:qU a b c d=true)(H:Int)(rs:L Vl)(E:Vl)(D B:Int)
  (C:zX s l=true->af 62 [.agg [ag a,ag b,ag c,ag d],.sl 5 (aD (cG n)),.sl 7 (aa l),ag g] (mW H rs E D B)) :
  af 33 [.agg [ag a,ag b,ag c,ag d],aM n,.sl 2 (az s),.sl 7 (aa l),ag g] (bif zX s l then mW H rs E D B else mW 14 [] lC 0 0):=by
 have h1:=vQ n s A u;have h2:=Ef a b c d;have q:=aQ s;have z2:=aB l;have z3:=kI l;rw[hf]at h2;generalize ke n s=r at *;obtain⟨⟨t,f⟩,e⟩:=r;obtain⟨k1,k2,k3,k4,k5⟩:=n;simp only at J;subst J;have c1:((((az s).length:Nat):Int) != (((aa l).length:Nat):Int))=false:=by rw[q,z2,I];exact ahS _
 refine qn func33 call33 λβ hf=>?_
 repeat' (first|refine sz ?_|refine zc ?_ ?_|(intro h;first|(cases h;done)|rw[h]|skip)|refine uC Z h1 ?_|refine uC Z h2 ?_)
 refine AK.dN (α:=Nat) (λj=>j<=l.length/\zX s l=zX (s.drop j) (l.drop j)) (λj=>l.length-j)
  (λj=>[(38,.c (.int .i64 j)),(37,.c (.int .i64 (aa l).length)),(36,.c (.sl 7 (aa l))),(2,.c (.sl 2 (az s))),(3,.c (.sl 7 (aa l))),(4,.c (ag g)),(5,.ptr 5 0),(6,.ptr 6 0),(10,.ptr 10 0)])
  (λ_=>[(5,[.c (ag a),.c (ag b),.c (ag c),.c (ag d)]),(6,[.c (ag k1),.c (ag k2),.c (ag k3),.c (.str k4),.c (.sl 5 (aD k5))]),(10,[.c (ag 0),.own .exact 7 [],.c (ag 0),.c (ag 0),.c (ag 0),.c (.str []),.own .exact 7 [],.own .exact 2 [],.own .exact 5 [],.c (ag 0),.c (ag 0)])]) (λ_=>[]) [5,6,10] 0
  ⟨aeW _,Z⟩ ce ⟨Z,Z,Z,trivial⟩ trivial Z Z Z ?_
 rintro j ⟨hj,W⟩ jh;rcases ie l j hj with ⟨v,Y,Q⟩|T
 ·have P:=xU Y;have O:=bt Y;obtain⟨G,V⟩:∃G,s[j]?=some G:=⟨_,aeL ai⟩;have N:=cI (abz V);have M:=fC Q;have hq:=AG G v ai ai;rw[Vd V Y]at W;have V9:=fG Y;have K:=gG V;clear N M C;obtain⟨x1,x2,x3,x4,x5,x6,x7⟩:=v;obtain⟨y1,y2⟩:=G;cases S:gN (.mk y1 y2) (.mk x1 x2 x3 x4 x5 x6 x7)with
  |false =>
   rw[S]at hq W;rw[afc]at W;rw[W];clear jh;exact dq
  |true =>
   rw[S]at hq W;rw[afS]at W
   repeat' (first|refine sz ?_|refine zc ?_ ?_|(intro h;first|(cases h;done)|rw[h]|skip)|refine uI Z (j) Z (V9) Z ?_|refine uI Z (j) Z (K) Z ?_|refine uC Z hq ?_)
   exact AK.again (jh (j+1) ⟨O,W⟩ ai) ⟨.inl (dY (i:=j) ai),.inl Z,.inl Z,.inl Z,.inl Z,.inl Z,.inl Z,.inl Z,.inl Z,trivial⟩ ⟨Z,Z,Z,trivial⟩ trivial Z Z Z
 have P:=tf T;have U:zX s l=true:=by rw[W,T,<- I,aeT,I,aeT];rfl
 have hT':=C U;rw[U];clear jh C;exact dq
end Go.Proofs
namespace Go.Proofs
open Go.cw
def Cb{a b c d:Int}(h:qU a b c d=true):(0<=a/\a<12)/\(0<=b/\b<12)/\(0<=c/\c<=bJ)/\(0<=d/\d<=bJ):=by unfold qU Nt Nu at h;simp only[Bool.cond_eq_ite,Bool.if_false_right,aaN,agh]at h;unfold bJ;omega
def Cc{v:Vl}{t:Ty}(h:bE v (.mk 15 [t])=true)(C:eU v=true):∃n a x,v = .mk 15 n a [] [x] [] []/\(1<=n/\n<=bJ)/\(0<=a/\a<12)/\bE x t=true/\eU x=true:=by
 obtain⟨k,n,a,s,M,V,code⟩:=v;obtain⟨A,S,_⟩:=ja h;simp only[dD]at A;subst A;simp[cA]at S;simp[bE,cA,dD,aU,aV]at h;obtain⟨rfl,rfl,rfl⟩:=S;rcases M with _|⟨x,_|⟨y,r⟩⟩
 simp at h;simp[aL,eU,ej]at h C;exact⟨n,a,x,Z,ai,ai,ta,C⟩;simp at h
def yC{n a:Int}{x:Vl}{t:Ty}(B:1<=n/\n<=bJ)(T:0<=a/\a<12)(h:bE x t=true/\eU x=true):bE (.mk 15 n a [] [x] [] []) (.mk 15 [t])=true/\eU (.mk 15 n a [] [x] [] [])=true:=by simp[bE,cA,dD,aU,aV,aL,eU,ej,h,B,T]
def Tn:bY 84=2:=by decide +kernel
def To:bY 85=1:=by decide +kernel
def Tp:bY 86=2:=by decide +kernel
def Tq:bY 87=1:=by decide +kernel
def Tr:bY 88=3:=by decide +kernel
def Ts:bY 89=0:=by decide +kernel
def Tt:bY 90=0:=by decide +kernel
def Tu:bY 91=0:=by decide +kernel
def Tv:bY 92=0:=by decide +kernel
def Rz(S:bZ)(Y:qU S.self S.iY S.iZ S.balance=true)(D:0<=S.au/\S.au<=bJ)(A:Int)(K:L UInt8)(M:L Nd)(W:aO M<=8589934593)(V s:L Ty)(r:L Ty×Bool)(hf:bP 89 M=some V)(C:ew s S.st)(P:s.length<=340)(G:r.1.all br=true)(I:iI 89 V s=(r,0)):bg A K 89 M S/\bQ S r (aE 89 M S):=by
 obtain⟨a,b,c,d,q,H,g,u,m,Q⟩:=S;obtain⟨rfl,rfl⟩:=cK hf bn;have E:=bL C;simp only at C E Y;cases I;have N:=Cb Y;unfold bg;have e:aE 89 [] ⟨a,b,c,d,q,H,g,u,m,Q⟩=aY ⟨a,b,c,d,q,H,g,u,m,Q⟩ [aK 7 a]:=by unfold aE;rw[Ts];rfl
 rw[e];exact⟨kX _ _ 2 A 89 K _ [] q _ bn (by rw[Ts];rfl) bT (RA ⟨a,b,c,d,q,H,g,u,m,Q⟩ A K bT),cg (S:=⟨a,b,c,d,q,H,g,u,m,Q⟩) (fX (bC G) (oN (.inr (.inr (.inr (.inr ⟨Z,N.1⟩)))))) C⟩
def LF(S:bZ)(Y:qU S.self S.iY S.iZ S.balance=true)(D:0<=S.au/\S.au<=bJ)(A:Int)(K:L UInt8)(M:L Nd)(W:aO M<=8589934593)(V s:L Ty)(r:L Ty×Bool)(hf:bP 90 M=some V)(C:ew s S.st)(P:s.length<=340)(G:r.1.all br=true)(I:iI 90 V s=(r,0)):bg A K 90 M S/\bQ S r (aE 90 M S):=by
 obtain⟨a,b,c,d,q,H,g,u,m,Q⟩:=S;obtain⟨rfl,rfl⟩:=cK hf bn;have E:=bL C;simp only at C E Y;cases I;have N:=Cb Y;unfold bg;have e:aE 90 [] ⟨a,b,c,d,q,H,g,u,m,Q⟩=aY ⟨a,b,c,d,q,H,g,u,m,Q⟩ [aK 7 b]:=by unfold aE;rw[Tt];rfl
 rw[e];exact⟨kX _ _ 2 A 90 K _ [] q _ bn (by rw[Tt];rfl) bT (LG ⟨a,b,c,d,q,H,g,u,m,Q⟩ A K bT),cg (S:=⟨a,b,c,d,q,H,g,u,m,Q⟩) (fX (bC G) (oN (.inr (.inr (.inr (.inr ⟨Z,N.2.1⟩)))))) C⟩
def LH(S:bZ)(Y:qU S.self S.iY S.iZ S.balance=true)(D:0<=S.au/\S.au<=bJ)(A:Int)(K:L UInt8)(M:L Nd)(W:aO M<=8589934593)(V s:L Ty)(r:L Ty×Bool)(hf:bP 91 M=some V)(C:ew s S.st)(P:s.length<=340)(G:r.1.all br=true)(I:iI 91 V s=(r,0)):bg A K 91 M S/\bQ S r (aE 91 M S):=by
 obtain⟨a,b,c,d,q,H,g,u,m,Q⟩:=S;obtain⟨rfl,rfl⟩:=cK hf bn;have E:=bL C;simp only at C E Y;cases I;have N:=Cb Y;unfold bg;have e:aE 91 [] ⟨a,b,c,d,q,H,g,u,m,Q⟩=aY ⟨a,b,c,d,q,H,g,u,m,Q⟩ [aK 5 c]:=by unfold aE;rw[Tu];rfl
 rw[e];exact⟨kX _ _ 2 A 91 K _ [] q _ bn (by rw[Tu];rfl) bT (LI ⟨a,b,c,d,q,H,g,u,m,Q⟩ A K bT),cg (S:=⟨a,b,c,d,q,H,g,u,m,Q⟩) (fX (bC G) (oN (.inr (.inr (.inr (.inl ⟨Z,N.2.2.1⟩)))))) C⟩
def IT(S:bZ)(Y:qU S.self S.iY S.iZ S.balance=true)(D:0<=S.au/\S.au<=bJ)(A:Int)(K:L UInt8)(M:L Nd)(W:aO M<=8589934593)(V s:L Ty)(r:L Ty×Bool)(hf:bP 92 M=some V)(C:ew s S.st)(P:s.length<=340)(G:r.1.all br=true)(I:iI 92 V s=(r,0)):bg A K 92 M S/\bQ S r (aE 92 M S):=by
 obtain⟨a,b,c,d,q,H,g,u,m,Q⟩:=S;obtain⟨rfl,rfl⟩:=cK hf bn;have E:=bL C;simp only at C E Y;cases I;have N:=Cb Y;unfold bg;have e:aE 92 [] ⟨a,b,c,d,q,H,g,u,m,Q⟩=aY ⟨a,b,c,d,q,H,g,u,m,Q⟩ [aK 5 d]:=by unfold aE;rw[Tv];rfl
 rw[e];exact⟨kX _ _ 2 A 92 K _ [] q _ bn (by rw[Tv];rfl) bT (IU ⟨a,b,c,d,q,H,g,u,m,Q⟩ A K bT),cg (S:=⟨a,b,c,d,q,H,g,u,m,Q⟩) (fX (bC G) (oN (.inr (.inr (.inr (.inl ⟨Z,N.2.2.2⟩)))))) C⟩
def LJ(S:bZ)(hE:qU S.self S.iY S.iZ S.balance=true)(hm:0<=S.au/\S.au<=bJ)(A:Int)(K:L UInt8)(M:L Nd)(hz:aO M<=8589934593)(V s:L Ty)(r:L Ty×Bool)(hf:bP 84 M=some V)(B:ew s S.st)(hl:s.length<=340)(hg:r.1.all br=true)(I:iI 84 V s=(r,0)):bg A K 84 M S/\bQ S r (aE 84 M S):=by
 obtain⟨a,b,c,d,st,H,g,u,m,Q⟩:=S;obtain⟨rfl,rfl⟩:=cK hf bn;have fF:=bL B;simp only at B fF hE hm;rcases s with _|⟨t1,_|⟨t2,s⟩⟩
 cases I;cases I;obtain⟨v,q0,rfl,hv,qO⟩:=aW B;obtain⟨w,q,rfl,hw,hq⟩:=aW qO;have f1:=cQ hv.1;have f2:=cQ hw.1;obtain⟨T2,Fc⟩:=t2;simp only[aag]at fF hl;have G:(if T2=4/\gl t1=true then gy (.mk 9 [.mk 15 [t1]]::s)else bw 5)=(r,0):=I;split at G;rotate_left;cases G;rename_i c1;cases G;obtain⟨rfl,_⟩:=c1;obtain⟨n,rfl,g2⟩:=gw bn f2.2.1;have N:=kY bn g2;have P:=N.2 bn;have D:=Cb hE;unfold bg;have e:aE 84 [] ⟨a,b,c,d,v::aK 4 n::q,H,g,u,m,Q⟩=(if n=0 then aY ⟨a,b,c,d,q,H,g,u,m,Q⟩ [cD []]else if m>bJ-n then(11,⟨a,b,c,d,q,H,g,u,m,Q⟩)else aY ⟨a,b,c,d,q,H,g,u,m+n,Q⟩ [cD [.mk 15 n a [] [v] [] []]]):=by unfold aE;rw[Tn];rfl
 rw[e];have hsz:=hv.2;have pX:=f1.2;obtain⟨J,W,Y,U,O,E,T⟩:=v;have hk:∀(e:Int)(S':bZ),cH 140 ⟨a,b,c,d,q,H,g,u,m,Q⟩ [.c (aM (.mk 2 A 84 K [])),.c (.sl 7 (aa [.mk J W Y U O E T,aK 4 n]))] (ag e) S'->cH 109 ⟨a,b,c,d,.mk J W Y U O E T::aK 4 n::q,H,g,u,m,Q⟩ [.c (aM (.mk 2 A 84 K []))] (ag e) S':=λe S' h =>
  kX _ _ 2 A 84 K _ [_,_] q _ bn (by rw[Tn];rfl) (by show List.length (Vl.mk J W Y U O E T::aK 4 n::q)<=_;simp only[aag];omega) h
 by_cases C:n=0;rw[if_pos C];exact⟨hk _ _ (OJ ⟨a,b,c,d,q,H,g,u,m,Q⟩ A K J W Y U O E T 4 n 0 [] [] [] [] C bT),cg (S:=⟨a,b,c,d,q,H,g,u,m,Q⟩) (fX (bC hg) oO) hq⟩;rw[if_neg C];by_cases h1:m>bJ-n;rw[if_pos h1];exact⟨hk _ _ (OK ⟨a,b,c,d,q,H,g,u,m,Q⟩ A K J W Y U O E T 4 n 0 [] [] [] [] C ⟨P,N.1.2⟩ h1 bT),.inr (.inl Z)⟩;rw[if_neg h1];exact⟨hk _ _ (OL ⟨a,b,c,d,q,H,g,u,m,Q⟩ A K J W Y U O E T 4 n 0 [] [] [] [] C ⟨P,N.1.2⟩ h1 hm.1 ai bT),cg (S:=⟨a,b,c,d,q,H,g,u,m+n,Q⟩) (fX (bC hg) (jK (yC ⟨ai,N.1.2⟩ D.1 pX))) hq⟩
def RB(S:bZ)(hE:qU S.self S.iY S.iZ S.balance=true)(hm:0<=S.au/\S.au<=bJ)(A:Int)(K:L UInt8)(M:L Nd)(hz:aO M<=8589934593)(V s:L Ty)(r:L Ty×Bool)(hf:bP 85 M=some V)(C:ew s S.st)(hl:s.length<=340)(G:r.1.all br=true)(I:iI 85 V s=(r,0)):bg A K 85 M S/\bQ S r (aE 85 M S):=by
 obtain⟨a,b,c,d,st,H,g,u,m,Q⟩:=S;obtain⟨rfl,rfl⟩:=cK hf bn;have E:=bL C;simp only at C E hE hm;cases s with
 |nil=>cases I
 |cons t s =>
 obtain⟨v,q,rfl,N,hq⟩:=aW C;have D:=cQ N.1;simp only[aag]at E hl;obtain⟨T,ts⟩:=t;have Y:(if T=15 then gy (.mk 11 [.mk 7 [],.mk 11 [aU (.mk T ts) 0,.mk 4 []]] :: .mk T ts::s)else bw 5)=(r,0):=I;split at Y;rotate_left;cases Y;rename_i c1;subst c1;obtain⟨t,rfl,Tw⟩:=fN (cF D.1) bn;cases Y;obtain⟨n,O,x,rfl,B,J,hx⟩:=Cc D.2.1 D.2.2;have hsz:=N.2;unfold bg;have e:aE 85 [] ⟨a,b,c,d,.mk 15 n O [] [x] [] []::q,H,g,u,m,Q⟩=aY ⟨a,b,c,d,q,H,g,u,m,Q⟩ [.mk 15 n O [] [x] [] [],bh (aK 7 O) (bh x (aK 4 n))]:=by unfold aE;rw[To];rfl
 rw[e];have W:bE (bh (aK 7 O) (bh x (aK 4 n))) (.mk 11 [.mk 7 [],.mk 11 [t,.mk 4 []]])=true/\eU (bh (aK 7 O) (bh x (aK 4 n)))=true :=
  ld (oN (.inr (.inr (.inr (.inr ⟨Z,J⟩))))) (ld hx (oN (.inr (.inr (.inl ⟨Z,ai,B.2⟩)))))
 have U:=bC G;have P:=bC (OM G);obtain⟨k3,n3,a3,s3,gf,cR,eu⟩:=x;exact⟨kX _ _ 2 A 85 K _ [_] q _ bn (by rw[To];rfl) (by show List.length (Vl.mk 15 n O [] [.mk k3 n3 a3 s3 gf cR eu] [] []::q)<=_;simp only[aag];omega) (RC ⟨a,b,c,d,q,H,g,u,m,Q⟩ A K 15 n O [] [] [] [] k3 n3 a3 s3 gf cR eu ai bT),LK (S:=⟨a,b,c,d,q,H,g,u,m,Q⟩) (fX U W) (fX P (yC B J hx)) hq⟩
def YD{n a:Int}{x:Vl}{t:Ty}{ts:L Ty}(B:0<=n/\n<=bJ)(T:0<=a/\a<12)(G:br t=true)(h:bE x t=true/\eU x=true):bE (.mk 8 n a [] [x] [t] []) (.mk 8 ts)=true/\eU (.mk 8 n a [] [x] [t] [])=true:=by simp[bE,cA,dD,aL,eU,ej,h,B,T,G]
def Hi(S:bZ)(hE:qU S.self S.iY S.iZ S.balance=true)(hm:0<=S.au/\S.au<=bJ)(P:Int)(K:L UInt8)(M:L Nd)(hz:aO M<=8589934593)(V s:L Ty)(r:L Ty×Bool)(hf:bP 88 M=some V)(C:ew s S.st)(hl:s.length<=340)(hg:r.1.all br=true)(I:iI 88 V s=(r,0)):bg P K 88 M S/\bQ S r (aE 88 M S):=by
 obtain⟨a,b,c,d,st,H,g,u,m,Q⟩:=S;obtain⟨x,rfl,hx,rfl⟩:=Dw hf bn;have B:=bL C;simp only at C B hE hm;rcases s with _|⟨t1,_|⟨t2,_|⟨t3,s⟩⟩⟩
 cases I;cases I;cases I;obtain⟨v,q0,rfl,hv,qO⟩:=aW C;obtain⟨w,q1,rfl,hw,ZL⟩:=aW qO;obtain⟨y,q,rfl,hy,hq⟩:=aW ZL;have f1:=cQ hv.1;have f2:=cQ hw.1;have f3:=cQ hy.1;obtain⟨T2,Fc⟩:=t2;obtain⟨T3,ts3⟩:=t3;simp only[aag]at B hl;have N:(if T2=5/\T3=7/\cV t1 (aJ x).1=true/\jc t1=true then gy (.mk 8 []::s)else bw 5)=(r,0):=I;split at N;rotate_left;cases N;rename_i c1;cases N;obtain⟨rfl,rfl,c3,_⟩:=c1;have et:=(gq _ _).1 c3;obtain⟨n,rfl,g2⟩:=gw bn f2.2.1;obtain⟨p,rfl,g3⟩:=gw bn f3.2.1;have r2:=kY bn g2;have G:=r2.2 bn;have D:=(RE g3).2.2.2.2 Z;simp only[aO]at hz;unfold bg;have e:aE 88 [x] ⟨a,b,c,d,v::aK 5 n::aK 7 p::q,H,g,u,m,Q⟩=aY ⟨a,b,c,d,q,H,g,u,m,Q⟩ [.mk 8 n p [] [v] [(aJ x).1] []]:=by unfold aE;rw[Tr];rfl
 rw[e];have hsz:=hv.2;have pX:=f1.2;have Y:=f1.1;rw[et]at pX Y;have htz:=(cF Y).2;obtain⟨J,W,U,T,O,E,A⟩:=v;exact⟨kX _ _ 2 P 88 K _ [_,_,_] q _ bn (by rw[Tr];rfl) (by show List.length (Vl.mk J W U T O E A::aK 5 n::aK 7 p::q)<=_;simp only[aag];omega) (Hj ⟨a,b,c,d,q,H,g,u,m,Q⟩ P K J W U T O E A 5 n 0 [] [] [] [] 7 p 0 [] [] [] [] x ai (by show aH (.mk 8 n p [] [_] [_] [])<=_;rw[show aH (.mk 8 n p [] [.mk J W U T O E A] [(aJ x).1] [])=0+(aH (.mk J W U T O E A)+0)+(bf (aJ x).1+0)+0+1 from rfl];omega) bT),cg (S:=⟨a,b,c,d,q,H,g,u,m,Q⟩) (fX (bC hg) (YD ⟨G,r2.1.2⟩ D Y pX)) hq⟩
def ON(S:bZ)(hE:qU S.self S.iY S.iZ S.balance=true)(hm:0<=S.au/\S.au<=bJ)(A:Int)(K:L UInt8)(M:L Nd)(hz:aO M<=8589934593)(V s:L Ty)(r:L Ty×Bool)(hf:bP 86 M=some V)(C:ew s S.st)(hl:s.length<=340)(hg:r.1.all br=true)(I:iI 86 V s=(r,0)):bg A K 86 M S/\bQ S r (aE 86 M S):=by
 obtain⟨a,b,c,d,st,H,g,u,m,Q⟩:=S;obtain⟨rfl,rfl⟩:=cK hf bn;have fF:=bL C;simp only at C fF hE hm;rcases s with _|⟨t1,_|⟨t2,s⟩⟩
 cases I;cases I;obtain⟨v,q0,rfl,hv,qO⟩:=aW C;obtain⟨w,q,rfl,hw,hq⟩:=aW qO;have D:=cQ hv.1;have P:=cQ hw.1;obtain⟨N,JO⟩:=t1;obtain⟨J,Fc⟩:=t2;simp only[aag]at fF hl;have G:(if N=15/\J=11/\dD (aU (.mk J Fc) 0)=4/\dD (aU (.mk J Fc) 1)=4 then gy (.mk 9 [.mk 11 [.mk N JO,.mk N JO]]::s)else bw 5)=(r,0):=I;split at G;rotate_left;cases G;rename_i c1;cases G;obtain⟨rfl,rfl,c3,c4⟩:=c1;obtain⟨t,rfl,Tw⟩:=fN (cF D.1) bn;obtain⟨⟨U1,KQ⟩,⟨U2,us2⟩,rfl,ZM,ok3⟩:=fE (cF P.1) bn;have E:U1=4:=c3;have B:U2=4:=c4;subst E B;obtain⟨n,O,x,rfl,hn,ha,hx⟩:=Cc D.2.1 D.2.2;obtain⟨y,z,rfl,hy,Uq⟩:=uG P.2.1 P.2.2;obtain⟨i,rfl,gi⟩:=gw bn hy.1;obtain⟨j,rfl,gj⟩:=gw bn Uq.1;have Y:=kY bn gi;have W:=kY bn gj;have U:=Y.2 bn;have T:=W.2 bn;have hsz:=hv.2;unfold bg;have e:aE 86 [] ⟨a,b,c,d,.mk 15 n O [] [x] [] []::bh (aK 4 i) (aK 4 j)::q,H,g,u,m,Q⟩=(if i<1\/j<1\/i+j≠n then aY ⟨a,b,c,d,q,H,g,u,m,Q⟩ [cD []]else aY ⟨a,b,c,d,q,H,g,u,m,Q⟩ [cD [bh (.mk 15 i O [] [x] [] []) (.mk 15 j O [] [x] [] [])]]):=by unfold aE;rw[Tp];rfl
 rw[e];have hk:∀(e:Int)(S':bZ),cH 140 ⟨a,b,c,d,q,H,g,u,m,Q⟩ [.c (aM (.mk 2 A 86 K [])),.c (.sl 7 (aa [.mk 15 n O [] [x] [] [],bh (aK 4 i) (aK 4 j)]))] (ag e) S'->cH 109 ⟨a,b,c,d,.mk 15 n O [] [x] [] []::bh (aK 4 i) (aK 4 j)::q,H,g,u,m,Q⟩ [.c (aM (.mk 2 A 86 K []))] (ag e) S':=λe S' h =>
  kX _ _ 2 A 86 K _ [_,_] q _ bn (by rw[Tp];rfl) (by show List.length (Vl.mk 15 n O [] [x] [] []::bh (aK 4 i) (aK 4 j)::q)<=_;simp only[aag];omega) h
 by_cases h:i<1\/j<1\/i+j≠n;rw[if_pos h];refine⟨hk _ _ ?_,cg (S:=⟨a,b,c,d,q,H,g,u,m,Q⟩) (fX (bC hg) oO) hq⟩;by_cases h1:i<1;exact IV ⟨a,b,c,d,q,H,g,u,m,Q⟩ A K 15 n O [] [x] [] [] 11 0 0 [] [] [] [] 4 i 0 [] [] [] [] 4 j 0 [] [] [] [] ⟨U,Y.1.2⟩ ⟨T,W.1.2⟩ h1 bT;by_cases h2:j<1;exact IW ⟨a,b,c,d,q,H,g,u,m,Q⟩ A K 15 n O [] [x] [] [] 11 0 0 [] [] [] [] 4 i 0 [] [] [] [] 4 j 0 [] [] [] [] ⟨U,Y.1.2⟩ ⟨T,W.1.2⟩ h1 h2 bT;exact IX ⟨a,b,c,d,q,H,g,u,m,Q⟩ A K 15 n O [] [x] [] [] 11 0 0 [] [] [] [] 4 i 0 [] [] [] [] 4 j 0 [] [] [] [] ⟨U,Y.1.2⟩ ⟨T,W.1.2⟩ h1 h2 ai bT;rw[if_neg h];exact⟨hk _ _ (LL ⟨a,b,c,d,q,H,g,u,m,Q⟩ A K 15 n O [] [x] [] [] 11 0 0 [] [] [] [] 4 i 0 [] [] [] [] 4 j 0 [] [] [] [] ⟨U,Y.1.2⟩ ⟨T,W.1.2⟩ h ai bT),cg (S:=⟨a,b,c,d,q,H,g,u,m,Q⟩) (fX (bC hg) (jK (ld (yC ⟨ai,Y.1.2⟩ ha hx) (yC ⟨ai,W.1.2⟩ ha hx)))) hq⟩
def RF(S:bZ)(hE:qU S.self S.iY S.iZ S.balance=true)(hm:0<=S.au/\S.au<=bJ)(A:Int)(K:L UInt8)(M:L Nd)(hz:aO M<=8589934593)(G s:L Ty)(r:L Ty×Bool)(hf:bP 87 M=some G)(hs:ew s S.st)(hl:s.length<=340)(hg:r.1.all br=true)(hc:iI 87 G s=(r,0)):bg A K 87 M S/\bQ S r (aE 87 M S):=by
 obtain⟨a,b,c,d,st,H,g,u,m,Q⟩:=S;obtain⟨rfl,rfl⟩:=cK hf bn;have fF:=bL hs;simp only at hs fF hE hm;cases s with
 |nil=>cases hc
 |cons t s =>
 obtain⟨v,q,rfl,hv,hq⟩:=aW hs;have C:=cQ hv.1;simp only[aag]at fF hl;obtain⟨T,ts⟩:=t;have dg:(if T=11/\dD (aU (.mk T ts) 0)=15/\cV (aU (.mk T ts) 0) (aU (.mk T ts) 1)=true then gy (.mk 9 [aU (.mk T ts) 0]::s)else bw 5)=(r,0):=hc;split at dg;rotate_left;cases dg;rename_i c1;obtain⟨rfl,c2,c3⟩:=c1;obtain⟨⟨U1,KQ⟩,t2,rfl,ZM,ok3⟩:=fE (cF C.1) bn;cases dg;have c2':U1=15:=c2;subst c2';have et:Ty.mk 15 KQ=t2:=(gq _ _).1 c3;subst et;obtain⟨t,rfl,Tw⟩:=fN ZM bn;obtain⟨X,Y,rfl,hX,hY⟩:=uG C.2.1 C.2.2;obtain⟨W,a2,x,rfl,hn2,ha2,hx⟩:=Cc hX.1 hX.2;obtain⟨V,P,y,rfl,hn4,ha4,hy⟩:=Cc hY.1 hY.2;have hsz:=hv.2;rw[show aH (bh (.mk 15 W a2 [] [x] [] []) (.mk 15 V P [] [y] [] []))=0+((0+(aH x+0)+0+0+1)+((0+(aH y+0)+0+0+1)+0))+0+0+1 from rfl]at hsz;have FF:=dO (jD (nQ C.1)).2 (show Ty.mk 15 [t]∈aV (.mk 11 [.mk 15 [t],.mk 15 [t]])by simp[aV]);have Qp:=dO (jD FF).2 (show t∈aV (.mk 15 [t])by simp[aV]);have U:=Cd x y t Qp hx.1 hy.1 ai;unfold bg;have e:aE 87 [] ⟨a,b,c,d,bh (.mk 15 W a2 [] [x] [] []) (.mk 15 V P [] [y] [] [])::q,H,g,u,m,Q⟩=(if a2≠P\/dS x y≠0 then aY ⟨a,b,c,d,q,H,g,u,m,Q⟩ [cD []]else if W>bJ-V then(11,⟨a,b,c,d,q,H,g,u,m,Q⟩)else aY ⟨a,b,c,d,q,H,g,u,m,Q⟩ [cD [.mk 15 (W+V) a2 [] [x] [] []]]):=by unfold aE;rw[Tq];rfl
 rw[e];have hk:∀(e:Int)(S':bZ),cH 140 ⟨a,b,c,d,q,H,g,u,m,Q⟩ [.c (aM (.mk 2 A 87 K [])),.c (.sl 7 (aa [bh (.mk 15 W a2 [] [x] [] []) (.mk 15 V P [] [y] [] [])]))] (ag e) S'->cH 109 ⟨a,b,c,d,bh (.mk 15 W a2 [] [x] [] []) (.mk 15 V P [] [y] [] [])::q,H,g,u,m,Q⟩ [.c (aM (.mk 2 A 87 K []))] (ag e) S':=λe S' h =>
  kX _ _ 2 A 87 K _ [_] q _ bn (by rw[Tq];rfl) (by show List.length (bh (.mk 15 W a2 [] [x] [] []) (.mk 15 V P [] [y] [] [])::q)<=_;simp only[aag];omega) h
 have hX2:=λN (hN:1<=N/\N<=bJ)=>yC (n:=N) hN ha2 hx;generalize pX:dS x y=cv at *;have alG:aH x<=1000000000:=by omega
 clear hsz hv C hX hY hs hc;obtain⟨O,n3,J,I,E,D,B⟩:=x;obtain⟨k5,n5,a5,s5,lT,je,lU⟩:=y;by_cases h:a2≠P\/cv≠0;rw[if_pos h];refine⟨hk _ _ ?_,cg (S:=⟨a,b,c,d,q,H,g,u,m,Q⟩) (fX (bC hg) oO) hq⟩;by_cases h1:a2≠P;exact OO ⟨a,b,c,d,q,H,g,u,m,Q⟩ A K 11 0 0 [] [] [] [] 15 W a2 [] [] [] [] O n3 J I E D B 15 V P [] [] [] [] k5 n5 a5 s5 lT je lU h1 bT;exact OP ⟨a,b,c,d,q,H,g,u,m,Q⟩ A K 11 0 0 [] [] [] [] 15 W a2 [] [] [] [] O n3 J I E D B 15 V P [] [] [] [] k5 n5 a5 s5 lT je lU cv U ai ai bT;rw[if_neg h];have h1:a2=P:=by omega
 have h2:cv=0:=by omega
 subst h2;by_cases h3:W>bJ-V;rw[if_pos h3];exact⟨hk _ _ (OQ ⟨a,b,c,d,q,H,g,u,m,Q⟩ A K 11 0 0 [] [] [] [] 15 W a2 [] [] [] [] O n3 J I E D B 15 V P [] [] [] [] k5 n5 a5 s5 lT je lU U h1 ⟨ai,hn2.2⟩ ⟨ai,hn4.2⟩ h3 bT),.inr (.inl Z)⟩;rw[if_neg h3];exact⟨hk _ _ (OR ⟨a,b,c,d,q,H,g,u,m,Q⟩ A K 11 0 0 [] [] [] [] 15 W a2 [] [] [] [] O n3 J I E D B 15 V P [] [] [] [] k5 n5 a5 s5 lT je lU U h1 ⟨ai,hn2.2⟩ ⟨ai,hn4.2⟩ h3 (by rw[show aH (.mk 15 W a2 [] [.mk O n3 J I E D B] [] [])=0+(aH (.mk O n3 J I E D B)+0)+0+0+1 from rfl];omega) bT),cg (S:=⟨a,b,c,d,q,H,g,u,m,Q⟩) (fX (bC hg) (jK (hX2 _ ⟨ai,ai⟩))) hq⟩
end Go.Proofs
