/- Run of package run. -/
import Derived.Test.YteanleefnjknoaaGreatDoorRunH
import Derived.Test.YteanleefnjknoaaGreatDoorFits
set_option maxRecDepth 100000
open Go.Proofs.Tryz
set_option linter.defProp false
set_option maxHeartbeats 0
set_option linter.unusedVariables false
set_option linter.unusedSimpArgs false
namespace Go.Proofs
open Go.cK
def mu(c:Int)(st:L Vl)(U:Vl)(g mt:Int):CV := .agg [ag c,.sl 7 (aa st),ag (vK U),ag (vN U),ag (xA U),.str (vS U),.sl 7 (aa (eC U)),.sl 2 (aA (GX U)),.sl 5 (aH (C9 U)),ag g,ag mt]
attribute [local irreducible] AK af bg cn cP dP
def mCz(S:ct)(b:Nat):L AV:=[.c (ag S.self),.c (ag S.iE),.c (ag S.iF),.c (ag S.balance),.c (.sl 7 (aa S.st)),.gS b 0 4 S.fr.length,.c (ag S.cC),.c (ag S.used),.c (ag S.az),
 .c (ag (vK S.said)),.c (ag (vN S.said)),.c (ag (xA S.said)),.c (.str (vS S.said)),.c (.sl 7 (aa (eC S.said))),.c (.sl 2 (aA (GX S.said))),.c (.sl 5 (aH (C9 S.said)))]
def LL(a b c d g:Int)(code:L Nd)(x:Vl)(q:L Vl)(u:ct)(hq:q.length<=1000000000)(T:u.st.length<=1000000000)
  (N:cJ 42 ⟨a,b,c,d,x::q,[⟨code,0,0,[]⟩],g,0,0,ou⟩ [] (ag 0) u) :
  ah 27 [.agg [ag a,ag b,ag c,ag d],.sl 5 (aH code),.sl 7 (aa (x::q)),ag g] (mu 0 u.st ou u.used u.az):=by
 have Q:=fS x q bn;have W:=ko (x::q) dG;have Y:=ko u.st.reverse aa3;rw[aaF,afZ]at Y;have C:∀x,UE 100027 7 (aa u.st) x x:=λ_ => .inl Z;refine qn func27 call27 λβ hf=>?_
 repeat' ((fail_if_success (refine lR 3 ?_));first|refine af.jv Tryz.hX kn Z Z Z Z Z Z Z Z Z Z Z Z Z Z ?_|refine sz ?_|refine zc ?_ ?_|(intro h;first|(cases h;done)|rw[h]|skip)|refine af.mq kn Z Z Z Z Z Z Q Z ?_|refine af.rE kn Z Z Z Z Z Z Z W Z ?_)
 refine AK.fV [(8,8),(3000,20),(3001,14),(3002,18)] [] (env':=[(8,.ptr 8 0),(9,.ptr 3000 0)]) (bs':=[(8,[.c (ag 0),.c (.sl 7 (aa [])),.c (ag 0),.c (ag 0),.c (ag 0),.c (.str []),.c (.sl 7 (aa [])),.c (.sl 2 (aA [])),.c (.sl 5 (aH [])),.c (ag 0),.c (ag 0)]),(3000,mC ⟨a,b,c,d,(x::q),[⟨code,0,0,[]⟩],g,0,0,ou⟩ 3001 3002),(3001,ak (sR (x::q))),(3002,ak (fR [⟨code,0,0,[]⟩]))]) (ts':=[]) (us':=[8,3000,3001,3002]) ce ⟨ce,ce,⟨_,_,Z,Z,cN _⟩,⟨_,_,Z,Z,cN _⟩,trivial⟩ Z ?_
 repeat' ((fail_if_success (refine lR 8 ?_));first|refine sz ?_|refine zc ?_ ?_|(intro h;first|(cases h;done)|rw[h]|skip)|refine ve ?_ (hq:=N)|refine af.rE kn Z Z Z Z Z Z Z Y Z ?_)
 refine AK.AI 100027 7 (aa u.st) (tail:=[]) (env':=[(8,.ptr 8 0),(9,.ptr 3000 0),(10,.c (ag 0)),(11,.ptr 11 0)]) (ts':=[])
  (bs':=[(8,[.c (ag 0),.c (.sl 7 (aa [])),.c (ag 0),.c (ag 0),.c (ag 0),.c (.str []),.c (.sl 7 (aa [])),.c (.sl 2 (aA [])),.c (.sl 5 (aH [])),.c (ag 0),.c (ag 0)]),(11,[.c (ag 0),.own .exact 7 [],.c (ag 0),.c (ag 0),.c (ag 0),.c (.str []),.own .exact 7 [],.own .exact 2 [],.own .exact 5 [],.c (ag u.used),.c (ag u.az)]),(3000,mCz u 200027)]) Z (aec _).symm (gZ _) ce ⟨⟨_,Z,vE C _⟩,⟨_,Z,vE C _⟩,⟨_,Z,⟨C _,C _,C _,C _,.inr ⟨_,Z,(aG _).symm,Z⟩,vE C _⟩⟩,trivial⟩ Z trivial ?_
 exact dq
def GW(a b c d g:Int)(code:L Nd)(x:Vl)(q:L Vl)(u:ct)(hq:q.length<=1000000000)
  (N:cJ 42 ⟨a,b,c,d,x::q,[⟨code,0,0,[]⟩],g,0,0,ou⟩ [] (ag 10) u) :
  ah 27 [.agg [ag a,ag b,ag c,ag d],.sl 5 (aH code),.sl 7 (aa (x::q)),ag g] (mu 10 [] u.said u.used 0):=by
 have Q:=fS x q bn;have Y:=ko (x::q) dG;refine qn func27 call27 λβ hf=>?_
 repeat' ((fail_if_success (refine lR 3 ?_));first|refine af.jv Tryz.hX kn Z Z Z Z Z Z Z Z Z Z Z Z Z Z ?_|refine sz ?_|refine zc ?_ ?_|(intro h;first|(cases h;done)|rw[h]|skip)|refine af.mq kn Z Z Z Z Z Z Q Z ?_|refine af.rE kn Z Z Z Z Z Z Z Y Z ?_)
 refine AK.fV [(8,8),(3000,20),(3001,14),(3002,18)] [] (env':=[(8,.ptr 8 0),(9,.ptr 3000 0)]) (bs':=[(8,[.c (ag 0),.c (.sl 7 (aa [])),.c (ag 0),.c (ag 0),.c (ag 0),.c (.str []),.c (.sl 7 (aa [])),.c (.sl 2 (aA [])),.c (.sl 5 (aH [])),.c (ag 0),.c (ag 0)]),(3000,mC ⟨a,b,c,d,(x::q),[⟨code,0,0,[]⟩],g,0,0,ou⟩ 3001 3002),(3001,ak (sR (x::q))),(3002,ak (fR [⟨code,0,0,[]⟩]))]) (ts':=[]) (us':=[8,3000,3001,3002]) ce ⟨ce,ce,⟨_,_,Z,Z,cN _⟩,⟨_,_,Z,Z,cN _⟩,trivial⟩ Z ?_
 repeat' (first|refine sz ?_|refine zc ?_ ?_|(intro h;first|(cases h;done)|rw[h]|skip)|refine ve ?_ (hq:=N))
 all_goals rfl
def Ju(a b c d g e:Int)(code:L Nd)(x:Vl)(q:L Vl)(u:ct)(hq:q.length<=1000000000)(U:e≠0)(I:e≠10)
  (N:cJ 42 ⟨a,b,c,d,x::q,[⟨code,0,0,[]⟩],g,0,0,ou⟩ [] (ag e) u) :
  ah 27 [.agg [ag a,ag b,ag c,ag d],.sl 5 (aH code),.sl 7 (aa (x::q)),ag g] (mu e [] ou u.used 0):=by
 have Q:=fS x q bn;have Y:=ko (x::q) dG;have W:(e==0)=false:=beq_eq_false_iff_ne.2 U;have H:(e==10)=false:=beq_eq_false_iff_ne.2 I;have p:(e != 0)=true:=by simpa using U
 refine qn func27 call27 λβ hf=>?_
 repeat' ((fail_if_success (refine lR 3 ?_));first|refine af.jv Tryz.hX kn Z Z Z Z Z Z Z Z Z Z Z Z Z Z ?_|refine sz ?_|refine zc ?_ ?_|(intro h;first|(cases h;done)|rw[h]|skip)|refine af.mq kn Z Z Z Z Z Z Q Z ?_|refine af.rE kn Z Z Z Z Z Z Z Y Z ?_)
 refine AK.fV [(8,8),(3000,20),(3001,14),(3002,18)] [] (env':=[(8,.ptr 8 0),(9,.ptr 3000 0)]) (bs':=[(8,[.c (ag 0),.c (.sl 7 (aa [])),.c (ag 0),.c (ag 0),.c (ag 0),.c (.str []),.c (.sl 7 (aa [])),.c (.sl 2 (aA [])),.c (.sl 5 (aH [])),.c (ag 0),.c (ag 0)]),(3000,mC ⟨a,b,c,d,(x::q),[⟨code,0,0,[]⟩],g,0,0,ou⟩ 3001 3002),(3001,ak (sR (x::q))),(3002,ak (fR [⟨code,0,0,[]⟩]))]) (ts':=[]) (us':=[8,3000,3001,3002]) ce ⟨ce,ce,⟨_,_,Z,Z,cN _⟩,⟨_,_,Z,Z,cN _⟩,trivial⟩ Z ?_
 repeat' (first|refine sz ?_|refine zc ?_ ?_|(intro h;first|(cases h;done)|rw[h]|skip)|refine ve ?_ (hq:=N))
 all_goals rfl
def LK(a b c d g:Int)(code:L Nd)(u:ct)(T:u.st.length<=1000000000)
  (N:cJ 42 ⟨a,b,c,d,[],[⟨code,0,0,[]⟩],g,0,0,ou⟩ [] (ag 0) u) :
  ah 27 [.agg [ag a,ag b,ag c,ag d],.sl 5 (aH code),.sl 7 (aa ([])),ag g] (mu 0 u.st ou u.used u.az):=by
 have Y:=ko [] (aeE _);have W:=ko u.st.reverse aa3;rw[aaF,afZ]at W;have C:∀x,UE 100027 7 (aa u.st) x x:=λ_ => .inl Z;refine qn func27 call27 λβ hf=>?_
 repeat' ((fail_if_success (refine lR 2 ?_));first|refine af.jv Tryz.hX kn Z Z Z Z Z Z Z Z Z Z Z Z Z Z ?_|refine sz ?_|refine zc ?_ ?_|(intro h;first|(cases h;done)|rw[h]|skip)|refine af.zU kn Z Z (kL 7) Z Z (λ_=>⟨_,_,Z,.inr Z,Z⟩) Z Z ?_|refine af.rE kn Z Z Z Z Z Z Z Y Z ?_)
 refine AK.empty 20 4 7 [.c (ag a),.c (ag b),.c (ag c),.c (ag d)] _ Z Z Z Z ?_;refine AK.xj 4 [] _ Z (aeU _).symm Z ?_
 repeat' ((fail_if_success (refine lR 3 ?_));first|refine sz ?_|refine zc ?_ ?_|(intro h;first|(cases h;done)|rw[h]|skip)|refine af.rE kn Z Z Z Z Z Z Z Y Z ?_)
 refine AK.fV [(8,8),(3000,20),(3001,4),(3002,18)] [] (env':=[(8,.ptr 8 0),(9,.ptr 3000 0)]) (bs':=[(8,[.c (ag 0),.c (.sl 7 (aa [])),.c (ag 0),.c (ag 0),.c (ag 0),.c (.str []),.c (.sl 7 (aa [])),.c (.sl 2 (aA [])),.c (.sl 5 (aH [])),.c (ag 0),.c (ag 0)]),(3000,mC ⟨a,b,c,d,[],[⟨code,0,0,[]⟩],g,0,0,ou⟩ 3001 3002),(3001,ak (sR [])),(3002,ak (fR [⟨code,0,0,[]⟩]))]) (ts':=[]) (us':=[8,3000,3001,3002]) ce ⟨ce,ce,⟨_,_,Z,Z,cN _⟩,⟨_,_,Z,Z,cN _⟩,trivial⟩ Z ?_
 repeat' ((fail_if_success (refine lR 8 ?_));first|refine sz ?_|refine zc ?_ ?_|(intro h;first|(cases h;done)|rw[h]|skip)|refine ve ?_ (hq:=N)|refine af.rE kn Z Z Z Z Z Z Z W Z ?_)
 refine AK.AI 100027 7 (aa u.st) (tail:=[]) (env':=[(8,.ptr 8 0),(9,.ptr 3000 0),(10,.c (ag 0)),(11,.ptr 11 0)]) (ts':=[])
  (bs':=[(8,[.c (ag 0),.c (.sl 7 (aa [])),.c (ag 0),.c (ag 0),.c (ag 0),.c (.str []),.c (.sl 7 (aa [])),.c (.sl 2 (aA [])),.c (.sl 5 (aH [])),.c (ag 0),.c (ag 0)]),(11,[.c (ag 0),.own .exact 7 [],.c (ag 0),.c (ag 0),.c (ag 0),.c (.str []),.own .exact 7 [],.own .exact 2 [],.own .exact 5 [],.c (ag u.used),.c (ag u.az)]),(3000,mCz u 200027)]) Z (aec _).symm (gZ _) ce ⟨⟨_,Z,vE C _⟩,⟨_,Z,vE C _⟩,⟨_,Z,⟨C _,C _,C _,C _,.inr ⟨_,Z,(aG _).symm,Z⟩,vE C _⟩⟩,trivial⟩ Z trivial ?_
 exact dq
def GV(a b c d g:Int)(code:L Nd)(u:ct)
  (N:cJ 42 ⟨a,b,c,d,[],[⟨code,0,0,[]⟩],g,0,0,ou⟩ [] (ag 10) u) :
  ah 27 [.agg [ag a,ag b,ag c,ag d],.sl 5 (aH code),.sl 7 (aa ([])),ag g] (mu 10 [] u.said u.used 0):=by
 have Y:=ko [] (aeE _);refine qn func27 call27 λβ hf=>?_
 repeat' ((fail_if_success (refine lR 2 ?_));first|refine af.jv Tryz.hX kn Z Z Z Z Z Z Z Z Z Z Z Z Z Z ?_|refine sz ?_|refine zc ?_ ?_|(intro h;first|(cases h;done)|rw[h]|skip)|refine af.zU kn Z Z (kL 7) Z Z (λ_=>⟨_,_,Z,.inr Z,Z⟩) Z Z ?_|refine af.rE kn Z Z Z Z Z Z Z Y Z ?_)
 refine AK.empty 20 4 7 [.c (ag a),.c (ag b),.c (ag c),.c (ag d)] _ Z Z Z Z ?_;refine AK.xj 4 [] _ Z (aeU _).symm Z ?_
 repeat' ((fail_if_success (refine lR 3 ?_));first|refine sz ?_|refine zc ?_ ?_|(intro h;first|(cases h;done)|rw[h]|skip)|refine af.rE kn Z Z Z Z Z Z Z Y Z ?_)
 refine AK.fV [(8,8),(3000,20),(3001,4),(3002,18)] [] (env':=[(8,.ptr 8 0),(9,.ptr 3000 0)]) (bs':=[(8,[.c (ag 0),.c (.sl 7 (aa [])),.c (ag 0),.c (ag 0),.c (ag 0),.c (.str []),.c (.sl 7 (aa [])),.c (.sl 2 (aA [])),.c (.sl 5 (aH [])),.c (ag 0),.c (ag 0)]),(3000,mC ⟨a,b,c,d,[],[⟨code,0,0,[]⟩],g,0,0,ou⟩ 3001 3002),(3001,ak (sR [])),(3002,ak (fR [⟨code,0,0,[]⟩]))]) (ts':=[]) (us':=[8,3000,3001,3002]) ce ⟨ce,ce,⟨_,_,Z,Z,cN _⟩,⟨_,_,Z,Z,cN _⟩,trivial⟩ Z ?_
 repeat' (first|refine sz ?_|refine zc ?_ ?_|(intro h;first|(cases h;done)|rw[h]|skip)|refine ve ?_ (hq:=N))
 all_goals rfl
def Jt(a b c d g e:Int)(code:L Nd)(u:ct)(U:e≠0)(I:e≠10)
  (N:cJ 42 ⟨a,b,c,d,[],[⟨code,0,0,[]⟩],g,0,0,ou⟩ [] (ag e) u) :
  ah 27 [.agg [ag a,ag b,ag c,ag d],.sl 5 (aH code),.sl 7 (aa ([])),ag g] (mu e [] ou u.used 0):=by
 have Y:=ko [] (aeE _);have W:(e==0)=false:=beq_eq_false_iff_ne.2 U;have H:(e==10)=false:=beq_eq_false_iff_ne.2 I;have p:(e != 0)=true:=by simpa using U
 refine qn func27 call27 λβ hf=>?_
 repeat' ((fail_if_success (refine lR 2 ?_));first|refine af.jv Tryz.hX kn Z Z Z Z Z Z Z Z Z Z Z Z Z Z ?_|refine sz ?_|refine zc ?_ ?_|(intro h;first|(cases h;done)|rw[h]|skip)|refine af.zU kn Z Z (kL 7) Z Z (λ_=>⟨_,_,Z,.inr Z,Z⟩) Z Z ?_|refine af.rE kn Z Z Z Z Z Z Z Y Z ?_)
 refine AK.empty 20 4 7 [.c (ag a),.c (ag b),.c (ag c),.c (ag d)] _ Z Z Z Z ?_;refine AK.xj 4 [] _ Z (aeU _).symm Z ?_
 repeat' ((fail_if_success (refine lR 3 ?_));first|refine sz ?_|refine zc ?_ ?_|(intro h;first|(cases h;done)|rw[h]|skip)|refine af.rE kn Z Z Z Z Z Z Z Y Z ?_)
 refine AK.fV [(8,8),(3000,20),(3001,4),(3002,18)] [] (env':=[(8,.ptr 8 0),(9,.ptr 3000 0)]) (bs':=[(8,[.c (ag 0),.c (.sl 7 (aa [])),.c (ag 0),.c (ag 0),.c (ag 0),.c (.str []),.c (.sl 7 (aa [])),.c (.sl 2 (aA [])),.c (.sl 5 (aH [])),.c (ag 0),.c (ag 0)]),(3000,mC ⟨a,b,c,d,[],[⟨code,0,0,[]⟩],g,0,0,ou⟩ 3001 3002),(3001,ak (sR [])),(3002,ak (fR [⟨code,0,0,[]⟩]))]) (ts':=[]) (us':=[8,3000,3001,3002]) ce ⟨ce,ce,⟨_,_,Z,Z,cN _⟩,⟨_,_,Z,Z,cN _⟩,trivial⟩ Z ?_
 repeat' (first|refine sz ?_|refine zc ?_ ?_|(intro h;first|(cases h;done)|rw[h]|skip)|refine ve ?_ (hq:=N))
 all_goals rfl
end Go.Proofs
namespace Go.Proofs
open Go.cK
def Mf(n:Int):Bool:=bif decide (n>=0)then decide (n<=1152921504606846976)else false
def Me(n:Int):Bool:=bif decide (n>=0)then decide (n<12)else false
def qb(a b c d:Int):Bool:=bif (bif (bif Me a then Me b else false)then Mf c else false)then Mf d else false
attribute [local irreducible] AK af bg cn cP dP
def IT(n:Int):ah 36 [ag n] (.bool (Mf n)):=by
 unfold Mf;cases A:decide (n>=0)with
 |false =>
  refine qn func36 call36 λβ hf=>?_;exact dq
 |true =>
  refine qn func36 call36 λβ hf=>?_;exact dq
def IU(n:Int):ah 37 [ag n] (.bool (Me n)):=by
 unfold Me;cases A:decide (n>=0)with
 |false =>
  refine qn func37 call37 λβ hf=>?_;exact dq
 |true =>
  refine qn func37 call37 λβ hf=>?_;exact dq
def Dc(a b c d:Int):ah 25 [.agg [ag a,ag b,ag c,ag d]] (.bool (qb a b c d)):=by
 have h1:=IU a;have h2:=IU b;have V:=IT c;have S:=IT d;unfold qb;generalize Me a=N at *;generalize Me b=C at *;generalize Mf c=K at *;generalize Mf d=x4 at *;cases N
 ·refine qn func25 call25 λβ hf=>?_;exact dq
 cases C
 ·refine qn func25 call25 λβ hf=>?_;exact dq
 cases K
 ·refine qn func25 call25 λβ hf=>?_;exact dq
 ·refine qn func25 call25 λβ hf=>?_;exact dq
def yH:L Ty->L Vl->Bool
 |t::s,v::l=>gH t v&&yH s l
 |_,_=>true
def TO{s:L Ty}{l:L Vl}{j:Nat}{t:Ty}{v:Vl}(h1:s[j]?=some t)(h2:l[j]?=some v):yH (s.drop j) (l.drop j)=(gH t v&&yH (s.drop (j+1)) (l.drop (j+1))):=by
 rw[dZ h1,dZ h2];rfl
attribute [local irreducible] jP gH
def Yg(a b c d g:Int)(n:Nd)(B:bM n<=8589934593)(s:L Ty)(Y:bz s<=8589934593)(l:L Vl)(h:¬((jP n s).2=0/\s.length=l.length/\qb a b c d=true)) :
  ah 11 [.agg [ag a,ag b,ag c,ag d],aW n,.sl 2 (aA s),.sl 7 (aa l),ag g] (mu 14 [] ou 0 0):=by
 have h1:=uL n s B Y;have h2:=Dc a b c d;have G:=aZ s;have V:=aG l;generalize qb a b c d=W at *;generalize jP n s=r at *;obtain⟨⟨t,f⟩,e⟩:=r;obtain⟨J,A,O,H,Q⟩:=n;simp only at h;by_cases S:e=0;rotate_left
 ·have u:(e != 0)=true:=by simpa using S
  clear h h2;refine qn func11 call11 λβ hf=>?_;exact dq
 subst S;by_cases E:s.length=l.length;rotate_left
 ·have u:((((aA s).length:Nat):Int) != (((aa l).length:Nat):Int))=true:=by rw[ahd];omega
  clear h h2;refine qn func11 call11 λβ hf=>?_;exact dq
 have u:((((aA s).length:Nat):Int) != (((aa l).length:Nat):Int))=false:=by rw[G,V,E];exact agL _
 cases W with
 |true=>exact absurd ⟨Z,E,Z⟩ h
 |false =>
  clear h;refine qn func11 call11 λβ hf=>?_;exact dq
def Yh(a b c d g:Int)(n:Nd)(B:bM n<=8589934593)(s:L Ty)(u:bz s<=8589934593)(l:L Vl)(hv:aO l<=8589934593)(A:(jP n s).2=0)(E:s.length=l.length)(hf:qb a b c d=true)(J:Int)(rs:L Vl)(I:Vl)(H G:Int)
  (S:yH s l=true->ah 27 [.agg [ag a,ag b,ag c,ag d],.sl 5 (aH (cI n)),.sl 7 (aa l),ag g] (mu J rs I H G)) :
  ah 11 [.agg [ag a,ag b,ag c,ag d],aW n,.sl 2 (aA s),.sl 7 (aa l),ag g] (bif yH s l then mu J rs I H G else mu 14 [] ou 0 0):=by
 have h1:=uL n s B u;have h2:=Dc a b c d;have q:=aZ s;have p:=aG l;have z3:=kg l;rw[hf]at h2;generalize jP n s=r at *;obtain⟨⟨t,f⟩,e⟩:=r;obtain⟨k1,k2,k3,k4,k5⟩:=n;simp only at A;subst A;have c1:((((aA s).length:Nat):Int) != (((aa l).length:Nat):Int))=false:=by rw[q,p,E];exact agL _
 refine qn func11 call11 λβ hf=>?_
 repeat' (first|refine sz ?_|refine zc ?_ ?_|(intro h;first|(cases h;done)|rw[h]|skip)|refine uC Z h1 ?_|refine uC Z h2 ?_)
 refine AK.eL (α:=Nat) (λj=>j<=l.length/\yH s l=yH (s.drop j) (l.drop j)) (λj=>l.length-j)
  (λj=>[(38,.c (.int .i64 j)),(37,.c (.int .i64 (aa l).length)),(36,.c (.sl 7 (aa l))),(2,.c (.sl 2 (aA s))),(3,.c (.sl 7 (aa l))),(4,.c (ag g)),(5,.ptr 5 0),(6,.ptr 6 0),(10,.ptr 10 0)])
  (λ_=>[(5,[.c (ag a),.c (ag b),.c (ag c),.c (ag d)]),(6,[.c (ag k1),.c (ag k2),.c (ag k3),.c (.str k4),.c (.sl 5 (aH k5))]),(10,[.c (ag 0),.own .exact 7 [],.c (ag 0),.c (ag 0),.c (ag 0),.c (.str []),.own .exact 7 [],.own .exact 2 [],.own .exact 5 [],.c (ag 0),.c (ag 0)])]) (λ_=>[]) [5,6,10] 0
  ⟨aeE _,Z⟩ ce ⟨Z,Z,Z,trivial⟩ trivial Z Z Z ?_
 rintro j ⟨hj,W⟩ jh;rcases iq l j hj with ⟨v,Y,Q⟩|D
 ·have P:=wv Y;have O:=bD Y;obtain⟨T,V⟩:∃T,s[j]?=some T:=⟨_,aea bn⟩
  have N:=cL (aaB V);have M:=fy Q;have hq:=E2 T v bn bn;rw[TO V Y]at W;have YP:=fA Y;have K:=gA V;clear N M S;obtain⟨x1,x2,x3,x4,x5,x6,x7⟩:=v;obtain⟨y1,y2⟩:=T;cases U:gH (.mk y1 y2) (.mk x1 x2 x3 x4 x5 x6 x7)with
  |false =>
   rw[U]at hq W;rw[aez]at W;rw[W];clear jh;exact dq
  |true =>
   rw[U]at hq W;rw[aeR]at W
   repeat' (first|refine sz ?_|refine zc ?_ ?_|(intro h;first|(cases h;done)|rw[h]|skip)|refine uI Z (j) Z (YP) Z ?_|refine uI Z (j) Z (K) Z ?_|refine uC Z hq ?_)
   exact AK.again (jh (j+1) ⟨O,W⟩ bn) ⟨.inl (gB (i:=j) bn),.inl Z,.inl Z,.inl Z,.inl Z,.inl Z,.inl Z,.inl Z,.inl Z,trivial⟩ ⟨Z,Z,Z,trivial⟩ trivial Z Z Z
 ·have P:=rV D;have C:yH s l=true:=by rw[W,D,<- E,aex,E,aex];rfl
  have hT':=S C;rw[C];clear jh S;exact dq
end Go.Proofs
namespace Go.Proofs
open Go.cK
def Bb{a b c d:Int}(h:qb a b c d=true):(0<=a/\a<12)/\(0<=b/\b<12)/\(0<=c/\c<=bN)/\(0<=d/\d<=bN):=by
 unfold qb Me Mf at h;simp only[Bool.cond_eq_ite,Bool.if_false_right,aai,aeH]at h;unfold bN;omega
def Bc{v:Vl}{t:Ty}(h:bL v (.mk 15 [t])=true)(Y:eP v=true):∃n a x,v = .mk 15 n a [] [x] [] []/\(1<=n/\n<=bN)/\(0<=a/\a<12)/\bL x t=true/\eP x=true:=by
 obtain⟨k,n,a,s,J,B,code⟩:=v;obtain⟨D,W,_⟩:=iS h;simp only[bS]at D;subst D;simp[cz]at W;simp[bL,cz,bS,aE,au]at h;obtain⟨rfl,rfl,rfl⟩:=W;rcases J with _|⟨x,_|⟨y,r⟩⟩
 ·simp at h
 ·simp[aS,eP,eg]at h Y;exact⟨n,a,x,Z,bn,bn,p8,Y⟩
 ·simp at h
def xy{n a:Int}{x:Vl}{t:Ty}(B:1<=n/\n<=bN)(ha:0<=a/\a<12)(h:bL x t=true/\eP x=true):bL (.mk 15 n a [] [x] [] []) (.mk 15 [t])=true/\eP (.mk 15 n a [] [x] [] [])=true:=by
 simp[bL,cz,bS,aE,au,aS,eP,eg,h,B,ha]
def Kp:cr 84=2:=by decide +kernel
def RS:cr 85=1:=by decide +kernel
def RT:cr 86=2:=by decide +kernel
def RU:cr 87=1:=by decide +kernel
def RV:cr 88=3:=by decide +kernel
def RW:cr 89=0:=by decide +kernel
def RY:cr 90=0:=by decide +kernel
def RZ:cr 91=0:=by decide +kernel
def R0:cr 92=0:=by decide +kernel
def Qa(S:ct)(W:qb S.self S.iE S.iF S.balance=true)(C:0<=S.az/\S.az<=bN)(Y:Int)(T:L UInt8)(J:L Nd)(D:aU J<=8589934593)(B s:L Ty)(r:L Ty×Bool)(hf:bW 89 J=some B)(G:ep s S.st)(E:s.length<=340)(p:r.1.all bB=true)(A:cg 89 B s=(r,0)):bh Y T 89 J S/\bY S r (aJ 89 J S):=by
 obtain⟨a,b,c,d,q,H,g,u,m,U⟩:=S;obtain⟨rfl,rfl⟩:=cQ hf bT;have V:=bP G;simp only at G V W;cases A;have M:=Bb W;unfold bh;have e:aJ 89 [] ⟨a,b,c,d,q,H,g,u,m,U⟩=bq ⟨a,b,c,d,q,H,g,u,m,U⟩ [aQ 7 a]:=by unfold aJ;rw[RW];rfl
 rw[e];exact⟨kM _ _ 2 Y 89 T _ [] q _ bT (by rw[RW];rfl) cc (Qb ⟨a,b,c,d,q,H,g,u,m,U⟩ Y T cc),cu (S:=⟨a,b,c,d,q,H,g,u,m,U⟩) (fU (bK p) (nV (.inr (.inr (.inr (.inr ⟨Z,M.1⟩)))))) G⟩
def Kq(S:ct)(W:qb S.self S.iE S.iF S.balance=true)(C:0<=S.az/\S.az<=bN)(Y:Int)(T:L UInt8)(J:L Nd)(D:aU J<=8589934593)(B s:L Ty)(r:L Ty×Bool)(hf:bW 90 J=some B)(G:ep s S.st)(E:s.length<=340)(p:r.1.all bB=true)(A:cg 90 B s=(r,0)):bh Y T 90 J S/\bY S r (aJ 90 J S):=by
 obtain⟨a,b,c,d,q,H,g,u,m,U⟩:=S;obtain⟨rfl,rfl⟩:=cQ hf bT;have V:=bP G;simp only at G V W;cases A;have M:=Bb W;unfold bh;have e:aJ 90 [] ⟨a,b,c,d,q,H,g,u,m,U⟩=bq ⟨a,b,c,d,q,H,g,u,m,U⟩ [aQ 7 b]:=by unfold aJ;rw[RY];rfl
 rw[e];exact⟨kM _ _ 2 Y 90 T _ [] q _ bT (by rw[RY];rfl) cc (Kr ⟨a,b,c,d,q,H,g,u,m,U⟩ Y T cc),cu (S:=⟨a,b,c,d,q,H,g,u,m,U⟩) (fU (bK p) (nV (.inr (.inr (.inr (.inr ⟨Z,M.2.1⟩)))))) G⟩
def Ks(S:ct)(W:qb S.self S.iE S.iF S.balance=true)(C:0<=S.az/\S.az<=bN)(Y:Int)(T:L UInt8)(J:L Nd)(D:aU J<=8589934593)(B s:L Ty)(r:L Ty×Bool)(hf:bW 91 J=some B)(G:ep s S.st)(E:s.length<=340)(p:r.1.all bB=true)(A:cg 91 B s=(r,0)):bh Y T 91 J S/\bY S r (aJ 91 J S):=by
 obtain⟨a,b,c,d,q,H,g,u,m,U⟩:=S;obtain⟨rfl,rfl⟩:=cQ hf bT;have V:=bP G;simp only at G V W;cases A;have M:=Bb W;unfold bh;have e:aJ 91 [] ⟨a,b,c,d,q,H,g,u,m,U⟩=bq ⟨a,b,c,d,q,H,g,u,m,U⟩ [aQ 5 c]:=by unfold aJ;rw[RZ];rfl
 rw[e];exact⟨kM _ _ 2 Y 91 T _ [] q _ bT (by rw[RZ];rfl) cc (Kt ⟨a,b,c,d,q,H,g,u,m,U⟩ Y T cc),cu (S:=⟨a,b,c,d,q,H,g,u,m,U⟩) (fU (bK p) (nV (.inr (.inr (.inr (.inl ⟨Z,M.2.2.1⟩)))))) G⟩
def Hr(S:ct)(W:qb S.self S.iE S.iF S.balance=true)(C:0<=S.az/\S.az<=bN)(Y:Int)(T:L UInt8)(J:L Nd)(D:aU J<=8589934593)(B s:L Ty)(r:L Ty×Bool)(hf:bW 92 J=some B)(G:ep s S.st)(E:s.length<=340)(p:r.1.all bB=true)(A:cg 92 B s=(r,0)):bh Y T 92 J S/\bY S r (aJ 92 J S):=by
 obtain⟨a,b,c,d,q,H,g,u,m,U⟩:=S;obtain⟨rfl,rfl⟩:=cQ hf bT;have V:=bP G;simp only at G V W;cases A;have M:=Bb W;unfold bh;have e:aJ 92 [] ⟨a,b,c,d,q,H,g,u,m,U⟩=bq ⟨a,b,c,d,q,H,g,u,m,U⟩ [aQ 5 d]:=by unfold aJ;rw[R0];rfl
 rw[e];exact⟨kM _ _ 2 Y 92 T _ [] q _ bT (by rw[R0];rfl) cc (Hs ⟨a,b,c,d,q,H,g,u,m,U⟩ Y T cc),cu (S:=⟨a,b,c,d,q,H,g,u,m,U⟩) (fU (bK p) (nV (.inr (.inr (.inr (.inl ⟨Z,M.2.2.2⟩)))))) G⟩
def Ku(S:ct)(hE:qb S.self S.iE S.iF S.balance=true)(hm:0<=S.az/\S.az<=bN)(W:Int)(T:L UInt8)(J:L Nd)(hz:aU J<=8589934593)(B s:L Ty)(r:L Ty×Bool)(hf:bW 84 J=some B)(G:ep s S.st)(hl:s.length<=340)(hg:r.1.all bB=true)(A:cg 84 B s=(r,0)):bh W T 84 J S/\bY S r (aJ 84 J S):=by
 obtain⟨a,b,c,d,st,H,g,u,m,U⟩:=S;obtain⟨rfl,rfl⟩:=cQ hf bT;have fj:=bP G;simp only at G fj hE hm;rcases s with _|⟨t1,_|⟨t2,s⟩⟩
 ·cases A
 ·cases A
 obtain⟨v,q0,rfl,hv,pV⟩:=bl G;obtain⟨w,q,rfl,hw,hq⟩:=bl pV;have f1:=cW hv.1;have f2:=cW hw.1;obtain⟨T2,D1⟩:=t2;simp only[aac]at fj hl;have E:(if T2=4/\fY t1=true then eT (.mk 9 [.mk 15 [t1]]::s)else aR 5)=(r,0):=A;split at E;rotate_left
 ·cases E
 rename_i c1;cases E;obtain⟨rfl,_⟩:=c1;obtain⟨n,rfl,g2⟩:=gl bT f2.2.1;have I:=kN bT g2;have N:=I.2 bT;have C:=Bb hE;unfold bh;have e:aJ 84 [] ⟨a,b,c,d,v::aQ 4 n::q,H,g,u,m,U⟩=(if n=0 then bq ⟨a,b,c,d,q,H,g,u,m,U⟩ [cG []]else if m>bN-n then(11,⟨a,b,c,d,q,H,g,u,m,U⟩)else bq ⟨a,b,c,d,q,H,g,u,m+n,U⟩ [cG [.mk 15 n a [] [v] [] []]]):=by unfold aJ;rw[Kp];rfl
 rw[e];have hsz:=hv.2;have oO:=f1.2;obtain⟨V,Q,P,O,Y,D,M⟩:=v;have p:∀(e:Int)(S':ct),cJ 97 ⟨a,b,c,d,q,H,g,u,m,U⟩ [.c (aW (.mk 2 W 84 T [])),.c (.sl 7 (aa [.mk V Q P O Y D M,aQ 4 n]))] (ag e) S'->cJ 58 ⟨a,b,c,d,.mk V Q P O Y D M::aQ 4 n::q,H,g,u,m,U⟩ [.c (aW (.mk 2 W 84 T []))] (ag e) S':=λe S' h =>
  kM _ _ 2 W 84 T _ [_,_] q _ bT (by rw[Kp];rfl) (by show List.length (Vl.mk V Q P O Y D M::aQ 4 n::q)<=_;simp only[aac];omega) h
 by_cases K:n=0
 ·rw[if_pos K];exact⟨p _ _ (Nw ⟨a,b,c,d,q,H,g,u,m,U⟩ W T V Q P O Y D M 4 n 0 [] [] [] [] K cc),cu (S:=⟨a,b,c,d,q,H,g,u,m,U⟩) (fU (bK hg) nW) hq⟩
 rw[if_neg K];by_cases h1:m>bN-n
 ·rw[if_pos h1];exact⟨p _ _ (Nx ⟨a,b,c,d,q,H,g,u,m,U⟩ W T V Q P O Y D M 4 n 0 [] [] [] [] K ⟨N,I.1.2⟩ h1 cc),.inr (.inl Z)⟩
 ·rw[if_neg h1];exact⟨p _ _ (Ny ⟨a,b,c,d,q,H,g,u,m,U⟩ W T V Q P O Y D M 4 n 0 [] [] [] [] K ⟨N,I.1.2⟩ h1 hm.1 bn cc),cu (S:=⟨a,b,c,d,q,H,g,u,m+n,U⟩) (fU (bK hg) (jw (xy ⟨bn,I.1.2⟩ C.1 oO))) hq⟩
def Qc(S:ct)(hE:qb S.self S.iE S.iF S.balance=true)(hm:0<=S.az/\S.az<=bN)(Y:Int)(A:L UInt8)(J:L Nd)(hz:aU J<=8589934593)(B s:L Ty)(r:L Ty×Bool)(hf:bW 85 J=some B)(G:ep s S.st)(hl:s.length<=340)(p:r.1.all bB=true)(M:cg 85 B s=(r,0)):bh Y A 85 J S/\bY S r (aJ 85 J S):=by
 obtain⟨a,b,c,d,st,H,g,u,m,U⟩:=S;obtain⟨rfl,rfl⟩:=cQ hf bT;have K:=bP G;simp only at G K hE hm;cases s with
 |nil=>cases M
 |cons t s =>
 obtain⟨v,q,rfl,I,hq⟩:=bl G;have P:=cW I.1;simp only[aac]at K hl;obtain⟨T,ts⟩:=t;have W:(if T=15 then eT (.mk 11 [.mk 7 [],.mk 11 [aE (.mk T ts) 0,.mk 4 []]] :: .mk T ts::s)else aR 5)=(r,0):=M;split at W;rotate_left
 ·cases W
 rename_i c1;subst c1;obtain⟨t,rfl,R1⟩:=fJ (cH P.1) bT;cases W;obtain⟨n,N,x,rfl,E,ha,D⟩:=Bc P.2.1 P.2.2;have hsz:=I.2;unfold bh;have e:aJ 85 [] ⟨a,b,c,d,.mk 15 n N [] [x] [] []::q,H,g,u,m,U⟩=bq ⟨a,b,c,d,q,H,g,u,m,U⟩ [.mk 15 n N [] [x] [] [],bA (aQ 7 N) (bA x (aQ 4 n))]:=by unfold aJ;rw[RS];rfl
 rw[e];have V:bL (bA (aQ 7 N) (bA x (aQ 4 n))) (.mk 11 [.mk 7 [],.mk 11 [t,.mk 4 []]])=true/\eP (bA (aQ 7 N) (bA x (aQ 4 n)))=true :=
  kO (nV (.inr (.inr (.inr (.inr ⟨Z,ha⟩))))) (kO D (nV (.inr (.inr (.inl ⟨Z,bn,E.2⟩)))))
 have Q:=bK p;have O:=bK (Nz p);obtain⟨C,n3,a3,s3,fW,cX,eo⟩:=x;exact⟨kM _ _ 2 Y 85 A _ [_] q _ bT (by rw[RS];rfl) (by show List.length (Vl.mk 15 n N [] [.mk C n3 a3 s3 fW cX eo] [] []::q)<=_;simp only[aac];omega) (Qd ⟨a,b,c,d,q,H,g,u,m,U⟩ Y A 15 n N [] [] [] [] C n3 a3 s3 fW cX eo bn cc),Kv (S:=⟨a,b,c,d,q,H,g,u,m,U⟩) (fU Q V) (fU O (xy E ha D)) hq⟩
def Xb{n a:Int}{x:Vl}{t:Ty}{ts:L Ty}(B:0<=n/\n<=bN)(ha:0<=a/\a<12)(G:bB t=true)(h:bL x t=true/\eP x=true):bL (.mk 8 n a [] [x] [t] []) (.mk 8 ts)=true/\eP (.mk 8 n a [] [x] [t] [])=true:=by
 simp[bL,cz,bS,aS,eP,eg,h,B,ha,G]
def F7(S:ct)(hE:qb S.self S.iE S.iF S.balance=true)(hm:0<=S.az/\S.az<=bN)(O:Int)(N:L UInt8)(J:L Nd)(hz:aU J<=8589934593)(B s:L Ty)(r:L Ty×Bool)(hf:bW 88 J=some B)(G:ep s S.st)(hl:s.length<=340)(hg:r.1.all bB=true)(A:cg 88 B s=(r,0)):bh O N 88 J S/\bY S r (aJ 88 J S):=by
 obtain⟨a,b,c,d,st,H,g,u,m,U⟩:=S;obtain⟨x,rfl,hx,rfl⟩:=Co hf bT;have fj:=bP G;simp only at G fj hE hm;rcases s with _|⟨t1,_|⟨t2,_|⟨t3,s⟩⟩⟩
 ·cases A
 ·cases A
 ·cases A
 obtain⟨v,q0,rfl,hv,pV⟩:=bl G;obtain⟨w,q1,rfl,hw,K⟩:=bl pV;obtain⟨y,q,rfl,hy,hq⟩:=bl K;have f1:=cW hv.1;have f2:=cW hw.1;have f3:=cW hy.1;obtain⟨T2,D1⟩:=t2;obtain⟨T3,ts3⟩:=t3;simp only[aac]at fj hl;have I:(if T2=5/\T3=7/\dh t1 (aP x).1=true/\iT t1=true then eT (.mk 8 []::s)else aR 5)=(r,0):=A;split at I;rotate_left
 ·cases I
 rename_i c1;cases I;obtain⟨rfl,rfl,c3,_⟩:=c1;have et:=(gF _ _).1 c3;obtain⟨n,rfl,g2⟩:=gl bT f2.2.1;obtain⟨p,rfl,g3⟩:=gl bT f3.2.1;have r2:=kN bT g2;have E:=r2.2 bT;have C:=(Qe g3).2.2.2.2 Z;simp only[aU]at hz;unfold bh;have e:aJ 88 [x] ⟨a,b,c,d,v::aQ 5 n::aQ 7 p::q,H,g,u,m,U⟩=bq ⟨a,b,c,d,q,H,g,u,m,U⟩ [.mk 8 n p [] [v] [(aP x).1] []]:=by unfold aJ;rw[RV];rfl
 rw[e];have hsz:=hv.2;have oO:=f1.2;have W:=f1.1;rw[et]at oO W;have htz:=(cH W).2;obtain⟨V,T,Q,P,Y,D,M⟩:=v;exact⟨kM _ _ 2 O 88 N _ [_,_,_] q _ bT (by rw[RV];rfl) (by show List.length (Vl.mk V T Q P Y D M::aQ 5 n::aQ 7 p::q)<=_;simp only[aac];omega) (F8 ⟨a,b,c,d,q,H,g,u,m,U⟩ O N V T Q P Y D M 5 n 0 [] [] [] [] 7 p 0 [] [] [] [] x bn (by show aM (.mk 8 n p [] [_] [_] [])<=_;rw[show aM (.mk 8 n p [] [.mk V T Q P Y D M] [(aP x).1] [])=0+(aM (.mk V T Q P Y D M)+0)+(bw (aP x).1+0)+0+1 from rfl];omega) cc),cu (S:=⟨a,b,c,d,q,H,g,u,m,U⟩) (fU (bK hg) (Xb ⟨E,r2.1.2⟩ C W oO)) hq⟩
def NA(S:ct)(hE:qb S.self S.iE S.iF S.balance=true)(hm:0<=S.az/\S.az<=bN)(Y:Int)(T:L UInt8)(J:L Nd)(hz:aU J<=8589934593)(B s:L Ty)(r:L Ty×Bool)(hf:bW 86 J=some B)(G:ep s S.st)(hl:s.length<=340)(hg:r.1.all bB=true)(A:cg 86 B s=(r,0)):bh Y T 86 J S/\bY S r (aJ 86 J S):=by
 obtain⟨a,b,c,d,st,H,g,u,m,U⟩:=S;obtain⟨rfl,rfl⟩:=cQ hf bT;have fj:=bP G;simp only at G fj hE hm;rcases s with _|⟨t1,_|⟨t2,s⟩⟩
 ·cases A
 ·cases A
 obtain⟨v,q0,rfl,hv,pV⟩:=bl G;obtain⟨w,q,rfl,hw,hq⟩:=bl pV;have P:=cW hv.1;have O:=cW hw.1;obtain⟨M,IB⟩:=t1;obtain⟨K,D1⟩:=t2;simp only[aac]at fj hl;have I:(if M=15/\K=11/\bS (aE (.mk K D1) 0)=4/\bS (aE (.mk K D1) 1)=4 then eT (.mk 9 [.mk 11 [.mk M IB,.mk M IB]]::s)else aR 5)=(r,0):=A;split at I;rotate_left
 ·cases I
 rename_i c1;cases I;obtain⟨rfl,rfl,c3,c4⟩:=c1;obtain⟨t,rfl,R1⟩:=fJ (cH P.1) bT;obtain⟨⟨U1,Jv⟩,⟨U2,us2⟩,rfl,X0,ok3⟩:=fz (cH O.1) bT;have E:U1=4:=c3;have D:U2=4:=c4;subst E D;obtain⟨n,N,x,rfl,hn,ha,hx⟩:=Bc P.2.1 P.2.2;obtain⟨y,z,rfl,hy,SW⟩:=tF O.2.1 O.2.2;obtain⟨i,rfl,gi⟩:=gl bT hy.1;obtain⟨j,rfl,gj⟩:=gl bT SW.1;have W:=kN bT gi;have V:=kN bT gj;have C:=W.2 bT;have Q:=V.2 bT;have hsz:=hv.2;unfold bh;have e:aJ 86 [] ⟨a,b,c,d,.mk 15 n N [] [x] [] []::bA (aQ 4 i) (aQ 4 j)::q,H,g,u,m,U⟩=(if i<1\/j<1\/i+j≠n then bq ⟨a,b,c,d,q,H,g,u,m,U⟩ [cG []]else bq ⟨a,b,c,d,q,H,g,u,m,U⟩ [cG [bA (.mk 15 i N [] [x] [] []) (.mk 15 j N [] [x] [] [])]]):=by unfold aJ;rw[RT];rfl
 rw[e];have hk:∀(e:Int)(p:ct),cJ 97 ⟨a,b,c,d,q,H,g,u,m,U⟩ [.c (aW (.mk 2 Y 86 T [])),.c (.sl 7 (aa [.mk 15 n N [] [x] [] [],bA (aQ 4 i) (aQ 4 j)]))] (ag e) p->cJ 58 ⟨a,b,c,d,.mk 15 n N [] [x] [] []::bA (aQ 4 i) (aQ 4 j)::q,H,g,u,m,U⟩ [.c (aW (.mk 2 Y 86 T []))] (ag e) p:=λe p h =>
  kM _ _ 2 Y 86 T _ [_,_] q _ bT (by rw[RT];rfl) (by show List.length (Vl.mk 15 n N [] [x] [] []::bA (aQ 4 i) (aQ 4 j)::q)<=_;simp only[aac];omega) h
 by_cases h:i<1\/j<1\/i+j≠n
 ·rw[if_pos h];refine⟨hk _ _ ?_,cu (S:=⟨a,b,c,d,q,H,g,u,m,U⟩) (fU (bK hg) nW) hq⟩;by_cases h1:i<1
  ·exact Ht ⟨a,b,c,d,q,H,g,u,m,U⟩ Y T 15 n N [] [x] [] [] 11 0 0 [] [] [] [] 4 i 0 [] [] [] [] 4 j 0 [] [] [] [] ⟨C,W.1.2⟩ ⟨Q,V.1.2⟩ h1 cc
  by_cases h2:j<1
  ·exact Hu ⟨a,b,c,d,q,H,g,u,m,U⟩ Y T 15 n N [] [x] [] [] 11 0 0 [] [] [] [] 4 i 0 [] [] [] [] 4 j 0 [] [] [] [] ⟨C,W.1.2⟩ ⟨Q,V.1.2⟩ h1 h2 cc
  ·exact Hv ⟨a,b,c,d,q,H,g,u,m,U⟩ Y T 15 n N [] [x] [] [] 11 0 0 [] [] [] [] 4 i 0 [] [] [] [] 4 j 0 [] [] [] [] ⟨C,W.1.2⟩ ⟨Q,V.1.2⟩ h1 h2 bn cc
 ·rw[if_neg h];exact⟨hk _ _ (Kw ⟨a,b,c,d,q,H,g,u,m,U⟩ Y T 15 n N [] [x] [] [] 11 0 0 [] [] [] [] 4 i 0 [] [] [] [] 4 j 0 [] [] [] [] ⟨C,W.1.2⟩ ⟨Q,V.1.2⟩ h bn cc),cu (S:=⟨a,b,c,d,q,H,g,u,m,U⟩) (fU (bK hg) (jw (kO (xy ⟨bn,W.1.2⟩ ha hx) (xy ⟨bn,V.1.2⟩ ha hx)))) hq⟩
def Qf(S:ct)(hE:qb S.self S.iE S.iF S.balance=true)(hm:0<=S.az/\S.az<=bN)(W:Int)(A:L UInt8)(J:L Nd)(hz:aU J<=8589934593)(B s:L Ty)(r:L Ty×Bool)(hf:bW 87 J=some B)(hs:ep s S.st)(hl:s.length<=340)(hg:r.1.all bB=true)(hc:cg 87 B s=(r,0)):bh W A 87 J S/\bY S r (aJ 87 J S):=by
 obtain⟨a,b,c,d,st,H,g,u,m,U⟩:=S;obtain⟨rfl,rfl⟩:=cQ hf bT;have fj:=bP hs;simp only at hs fj hE hm;cases s with
 |nil=>cases hc
 |cons t s =>
 obtain⟨v,q,rfl,hv,hq⟩:=bl hs;have C:=cW hv.1;simp only[aac]at fj hl;obtain⟨T,ts⟩:=t;have dA:(if T=11/\bS (aE (.mk T ts) 0)=15/\dh (aE (.mk T ts) 0) (aE (.mk T ts) 1)=true then eT (.mk 9 [aE (.mk T ts) 0]::s)else aR 5)=(r,0):=hc;split at dA;rotate_left
 ·cases dA
 rename_i c1;obtain⟨rfl,c2,c3⟩:=c1;obtain⟨⟨U1,Jv⟩,t2,rfl,X0,ok3⟩:=fz (cH C.1) bT;cases dA;have c2':U1=15:=c2;subst c2';have et:Ty.mk 15 Jv=t2:=(gF _ _).1 c3;subst et;obtain⟨t,rfl,R1⟩:=fJ X0 bT;obtain⟨X,Y,rfl,hX,hY⟩:=tF C.2.1 C.2.2;obtain⟨D,a2,x,rfl,p,ha2,hx⟩:=Bc hX.1 hX.2;obtain⟨E,P,y,rfl,hn4,ha4,hy⟩:=Bc hY.1 hY.2;have hsz:=hv.2;rw[show aM (bA (.mk 15 D a2 [] [x] [] []) (.mk 15 E P [] [y] [] []))=0+((0+(aM x+0)+0+0+1)+((0+(aM y+0)+0+0+1)+0))+0+0+1 from rfl]at hsz;have GQ:=dQ (jk (nj C.1)).2 (show Ty.mk 15 [t]∈au (.mk 11 [.mk 15 [t],.mk 15 [t]])by simp[au]);have SS:=dQ (jk GQ).2 (show t∈au (.mk 15 [t])by simp[au]);have V:=Bd x y t SS hx.1 hy.1 bn;unfold bh;have e:aJ 87 [] ⟨a,b,c,d,bA (.mk 15 D a2 [] [x] [] []) (.mk 15 E P [] [y] [] [])::q,H,g,u,m,U⟩=(if a2≠P\/dR x y≠0 then bq ⟨a,b,c,d,q,H,g,u,m,U⟩ [cG []]else if D>bN-E then(11,⟨a,b,c,d,q,H,g,u,m,U⟩)else bq ⟨a,b,c,d,q,H,g,u,m,U⟩ [cG [.mk 15 (D+E) a2 [] [x] [] []]]):=by unfold aJ;rw[RU];rfl
 rw[e];have hk:∀(e:Int)(S':ct),cJ 97 ⟨a,b,c,d,q,H,g,u,m,U⟩ [.c (aW (.mk 2 W 87 A [])),.c (.sl 7 (aa [bA (.mk 15 D a2 [] [x] [] []) (.mk 15 E P [] [y] [] [])]))] (ag e) S'->cJ 58 ⟨a,b,c,d,bA (.mk 15 D a2 [] [x] [] []) (.mk 15 E P [] [y] [] [])::q,H,g,u,m,U⟩ [.c (aW (.mk 2 W 87 A []))] (ag e) S':=λe S' h =>
  kM _ _ 2 W 87 A _ [_] q _ bT (by rw[RU];rfl) (by show List.length (bA (.mk 15 D a2 [] [x] [] []) (.mk 15 E P [] [y] [] [])::q)<=_;simp only[aac];omega) h
 have hX2:=λN (hN:1<=N/\N<=bN)=>xy (n:=N) hN ha2 hx;generalize oO:dR x y=cv at *;have ajr:aM x<=1000000000:=by omega
 clear hsz hv C hX hY hs hc;obtain⟨O,n3,Q,M,K,I,G⟩:=x;obtain⟨k5,n5,a5,s5,lu,iU,lz⟩:=y;by_cases h:a2≠P\/cv≠0
 ·rw[if_pos h];refine⟨hk _ _ ?_,cu (S:=⟨a,b,c,d,q,H,g,u,m,U⟩) (fU (bK hg) nW) hq⟩;by_cases h1:a2≠P
  ·exact NB ⟨a,b,c,d,q,H,g,u,m,U⟩ W A 11 0 0 [] [] [] [] 15 D a2 [] [] [] [] O n3 Q M K I G 15 E P [] [] [] [] k5 n5 a5 s5 lu iU lz h1 cc
  ·exact NC ⟨a,b,c,d,q,H,g,u,m,U⟩ W A 11 0 0 [] [] [] [] 15 D a2 [] [] [] [] O n3 Q M K I G 15 E P [] [] [] [] k5 n5 a5 s5 lu iU lz cv V bn bn cc
 ·rw[if_neg h];have h1:a2=P:=by omega
  have h2:cv=0:=by omega
  subst h2;by_cases h3:D>bN-E
  ·rw[if_pos h3];exact⟨hk _ _ (ND ⟨a,b,c,d,q,H,g,u,m,U⟩ W A 11 0 0 [] [] [] [] 15 D a2 [] [] [] [] O n3 Q M K I G 15 E P [] [] [] [] k5 n5 a5 s5 lu iU lz V h1 ⟨bn,p.2⟩ ⟨bn,hn4.2⟩ h3 cc),.inr (.inl Z)⟩
  ·rw[if_neg h3];exact⟨hk _ _ (NG ⟨a,b,c,d,q,H,g,u,m,U⟩ W A 11 0 0 [] [] [] [] 15 D a2 [] [] [] [] O n3 Q M K I G 15 E P [] [] [] [] k5 n5 a5 s5 lu iU lz V h1 ⟨bn,p.2⟩ ⟨bn,hn4.2⟩ h3 (by rw[show aM (.mk 15 D a2 [] [.mk O n3 Q M K I G] [] [])=0+(aM (.mk O n3 Q M K I G)+0)+0+0+1 from rfl];omega) cc),cu (S:=⟨a,b,c,d,q,H,g,u,m,U⟩) (fU (bK hg) (jw (hX2 _ ⟨bn,bn⟩))) hq⟩
end Go.Proofs
