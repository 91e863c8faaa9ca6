/- What nodes, node, Node, Told, Pack, Parse and Unpack of package value  -/
import Derived.Test.YteanleefnjknoaaGreatDoorTree3
import Derived.Test.YteanleefnjknoaaGreatDoorTree4
import Derived.Test.YteanleefnjknoaaGreatDoorTree5
import Derived.Test.YteanleefnjknoaaGreatDoorChk3
import Derived.Test.YteanleefnjknoaaGreatDoorChkB
import Derived.Test.YteanleefnjknoaaGreatDoorChk5
import Derived.Test.YteanleefnjknoaaGreatDoorChk8
import Derived.Test.YteanleefnjknoaaGreatDoorVal2
import Derived.Test.YteanleefnjknoaaGreatDoorVal4
open Go.IntKind
open Go.Proofs.Tryz
set_option linter.defProp false
set_option maxHeartbeats 0
set_option linter.unusedVariables false
set_option linter.unusedSimpArgs false
set_option maxRecDepth 100000
namespace Go.Proofs
open Go.cK
def kids{k n a:Int}{s:L UInt8}{J:L Vl}{B:L Ty}{code:L Nd}{t:Ty}(h:bL (.mk k n a s J B code) t=true)(Q:ig t=false)(D:k=9\/k=10\/k=11\/k=12\/k=13) :
  ∀x∈J,∃u,ig u=false/\bL x u=true:=by
 intro x O;have W:=(qm h).1;have Y:=l7 h;obtain⟨V,T⟩:=jk Q;rw[<- W]at V;rcases D with rfl|rfl|rfl|rfl|rfl
 ·simp[oB]at Y;have:arity 9=1:=by decide
  exact⟨_,dQ T (l8 (i:=0) bn),(fN _ _).1 Y.2 x O⟩
 ·simp[oB]at Y;have:arity 10=1:=by decide
  exact⟨_,dQ T (l8 (i:=0) bn),(fN _ _).1 Y.2 x O⟩
 ·simp[oB]at Y;have:arity 11=2:=by decide
  obtain⟨y,z,u,w,I,q,G,E⟩:=YA Y.1.2 bn Y.2;rw[q]at T;rw[I]at O;simp only[aeB,List.not_mem_nil,ahk]at O;rcases O with rfl|rfl
  ·exact⟨u,dQ T cS,G⟩
  ·exact⟨w,dQ T cS,E⟩
 ·simp[oB]at Y;have:arity 12=2:=by decide
  exact⟨_,dQ T (l8 (i:=n.toNat) bn),(fN _ _).1 Y.2 x O⟩
 ·simp[oB]at Y;have:arity 13=2:=by decide
  refine⟨.mk 11 (au t),?_,(fN _ _).1 Y.1.2 x O⟩;simp only[ig,aeQ];exact⟨aap (by(simp;have:arity 11=2:=by decide);omega),T⟩
def acY{x:Vl}{ts:L Ty}(h:bL x (.mk 11 ts)=true):vK x=11:=by
 cases x with|mk k n a s J B code=>exact(qm h).1
def VB{G:j8}{a b c d:CV}{s t:Nat}{v:Value}(h:Rel G (.agg [a,b,c,d,.sl s []]) v):Rel G (.agg [a,b,c,d,.sl t []]) v:=by
 rw[Rel]at h ⊢;obtain⟨vs,I,W,Y⟩:=h;refine⟨vs,I,?_,?_⟩
 ·rw[bR]at W ⊢;obtain⟨V,U,P,T,W⟩:=W;refine⟨V,U,P,T,?_⟩;rw[bR]at W ⊢;obtain⟨S,M,B,A,W⟩:=W;refine⟨S,M,B,A,?_⟩;rw[bR]at W ⊢;obtain⟨Q,O,N,K,W⟩:=W;refine⟨Q,O,N,K,?_⟩;rw[bR]at W ⊢;obtain⟨J,H,E,D,W⟩:=W;refine⟨J,H,E,D,?_⟩;rw[bR]at W ⊢;obtain⟨C,q,u,p,fb⟩:=W;exact⟨C,q,u,JB p,fb⟩
 ·simp only[aeL,List.all_nil,afl,aai]at Y ⊢;exact⟨Y.1,Y.2.1,Y.2.2.1,Y.2.2.2.1,Z⟩
def Mn(x:Vl)(l:L Vl):eS (x::l)=eV x::eS l:=by simp only[eS]
def Ph:eS []=[]:=by simp only[eS]
def Pj(k n a:Int)(s:L UInt8)(J:L Vl)(B:L Ty)(code:L Nd)(l:L Vl):nJ (.mk k n a s J B code::l) = .mk 2 0 28 [] (eS J)::nJ l:=by simp only[nJ]
def Tf:nJ []=[]:=by simp only[nJ]
def YB(n a:Int)(s:L UInt8)(J:L Vl)(B:L Ty)(code:L Nd):eV (.mk 1 n a s J B code) = .mk 2 0 20 [] []:=by simp[eV]
def YC(n a:Int)(s:L UInt8)(J:L Vl)(B:L Ty)(code:L Nd):eV (.mk 2 n a s J B code) = .mk 2 0 (22-n) [] []:=by simp[eV]
def YD(n a:Int)(s:L UInt8)(J:L Vl)(B:L Ty)(code:L Nd):eV (.mk 6 n a s J B code) = .mk 1 0 0 s []:=by simp[eV]
def YE(n a:Int)(s:L UInt8)(J:L Vl)(B:L Ty)(code:L Nd):eV (.mk 9 n a s J B code) = .mk 2 0 (27-J.length) [] (eS J):=by simp[eV]
def VC(n a:Int)(s:L UInt8)(J:L Vl)(B:L Ty)(code:L Nd):eV (.mk 10 n a s J B code) = .mk 3 0 0 [] (eS J):=by simp[eV]
def VD(n a:Int)(s:L UInt8)(J:L Vl)(B:L Ty)(code:L Nd):eV (.mk 11 n a s J B code) = .mk 2 0 23 [] (eS J):=by simp[eV]
def VE(n a:Int)(s:L UInt8)(J:L Vl)(B:L Ty)(code:L Nd):eV (.mk 12 n a s J B code) = .mk 2 0 (24+n) [] (eS J):=by simp[eV]
def VF(n a:Int)(s:L UInt8)(J:L Vl)(B:L Ty)(code:L Nd):eV (.mk 13 n a s J B code) = .mk 3 0 0 [] (nJ J):=by simp[eV]
def YF(k n a:Int)(h:¬(k=1\/k=2\/k=6\/k=9\/k=10\/k=11\/k=12\/k=13))(s:L UInt8)(J:L Vl)(B:L Ty)(code:L Nd):eV (.mk k n a s J B code) = .mk 0 n 0 [] []:=by
 simp only[not_or]at h;simp[eV,h]
attribute [local irreducible] AK af bg cn eV eS nJ nG bL dY fF eI dV bB gW
def rY(p:Int)(l:L Nd):ah 161 [.int .i64 p,.sl 5 (aH l)] (aW (.mk 2 0 p [] l)):=by
 refine qn func161 call161 λβ hf=>?_;exact dq
def AF(p:Int):ah 161 [.int .i64 p,.sl 0 []] (aW (.mk 2 0 p [] [])):=by
 have h:ah 161 [.int .i64 p,.sl 0 []] (.agg [.int .i64 2,.int .i64 0,.int .i64 p,.str [],.sl 0 []]):=by
  refine qn func161 call161 λβ hf=>?_;exact dq
 exact bg.weaken (λG v M=>VB M) h
def CI(l:L Vl)(E:l.length<=1099511627776)(T:∀x∈l,ah 154 [bH x] (aW (eV x))):ah 162 [.sl 7 (aa l)] (.sl 5 (aH (eS l))):=by
 refine qn func162 call162 λβ hf=>?_;refine dn ?_;refine AK.fV [] [(6000,(0,none))] (env':=[(8,.c (.int .i64 (0:Nat))),(7,.c (.int .i64 (aa l).length)),(6,.c (.sl 7 (aa l))),(3,.own (.tok 6000 0) 5 [])])
  (bs':=[]) (ts':=[(6000,0)]) (us':=[6000])
  ce  trivial Z ?_
 refine AK.eL (α:=Nat×L Nd) (λz=>z.1<=l.length/\z.1=z.2.length/\eS l=z.2++eS (l.drop z.1)) (λz=>l.length-z.1)
  (λz=>[(8,.c (.int .i64 z.1)),(7,.c (.int .i64 (aa l).length)),(6,.c (.sl 7 (aa l))),(3,.own (.tok 6000 0) 5 (aH z.2))]) (λ_=>[]) (λ_=>[(6000,0)]) [6000] (0,[])
  ⟨bn,Z,cS⟩ ce trivial ⟨Z,trivial⟩ Z Z Z ?_
 rintro⟨i,acc⟩ ⟨K,U,N⟩ ih;simp only at K U N;rcases iq l i K with ⟨x,O,C⟩|S
 ·have A:=wv O;have h2:=bD O;have hq:=T x C;rw[dZ O,Mn]at N;rw[show ∀(a:L Nd)(b:Nd)(c:L Nd),a++b::c=a++[b]++c from λa b c=>by simp]at N;rcases I:eV x with ⟨V,Q,M,u,W⟩
  rw[I]at hq N;obtain⟨J,H,G,D,B,q,p⟩:=x
  repeat' (first|refine sz ?_|refine zc ?_ ?_|(intro h;first|(cases h;done)|rw[h]|skip)|refine uI Z (i) Z (fA O) Z ?_|refine uC Z hq ?_|(refine uA Z ?_ ?_<;>(try (show(_:Nat)*_<=_;dsimp only))))
  ·have h1:=bt acc;simp only[aac,aad];omega
  ·have Y:aH acc++[aW (Nd.mk V Q M u W)]=aH (acc++[Nd.mk V Q M u W]):=(mF acc [_]).symm;refine AK.fV [] [(6000,(0,some 6000))] (env':=[(8,.c (.int .i64 ((i+1:Nat):Int))),(7,.c (.int .i64 (aa l).length)),(6,.c (.sl 7 (aa l))),(3,.own (.tok 6000 0) 5 (aH (acc++[Nd.mk V Q M u W])))])
    (bs':=[]) (ts':=[(6000,0)]) (us':=[6000])
    ⟨⟨_,Z,.inl (ku (i:=i) bn)⟩,⟨_,Z,.inl Z⟩,⟨_,Z,.inl Z⟩,⟨_,Z,⟨_,Z,.inr ⟨_,_,Z,Z,aeb (AV.own (.tok 6000 1) 5) Y⟩⟩⟩,trivial⟩ trivial Z ?_
   exact ih (i+1,acc++[Nd.mk V Q M u W]) ⟨h2,by simp[U],N⟩ Hg
 ·have A:=rV S;have P:eS l=acc:=by rw[N,S,aex,Ph,aec]
  rw[P];clear ih N;exact dq
def zA:∀(v:Vl)(t:Ty),ig t=false->bL v t=true->aM v<=8589934593->ah 154 [bH v] (aW (eV v))
 |.mk k n a s J B code,t,hb,S,hv=>by
  simp only[aM]at hv;have Lb:=kg J;have P:∀x∈J,∀u,ig u=false->bL x u=true->ah 154 [bH x] (aW (eV x)):=λx O u h1 h2=>zA x u h1 h2 RR;have M:∀k' n' a' s' C Y W,Vl.mk k' n' a' s' C Y W∈J->∀y∈C,∀u,ig u=false->bL y u=true->ah 154 [bH y] (aW (eV y)):=λk' n' a' s' C Y W O y Q u h1 h2=>zA y u h1 h2 (by have h3:=fy O;have h4:=fy Q;simp only[aM]at h3;omega);have V:=l7 S;have K:=kids S hb;have U:(k=9\/k=10\/k=11\/k=12\/k=13)->ah 162 [.sl 7 (aa J)] (.sl 5 (aH (eS J))):=λh=>CI J bn λx O=>by
   obtain⟨u,I,H⟩:=K h x O;exact P x O u I H
  by_cases c:k=1
  ·subst c;rw[YB];have h1:=AF 20;refine qn func154 call154 λβ hf=>?_;exact dq
  by_cases c:k=2
  ·subst c;rw[YC];have hn:0<=n/\n<=1:=by simp[oB]at V;omega
   have T:i64.wrap (22-n)=22-n:=iy bn bn;have h1:=AF (22-n);rw[<- T]at h1 ⊢;refine qn func154 call154 λβ hf=>?_;exact dq
  by_cases c:k=6
  ·subst c;rw[YD];refine qn func154 call154 λβ hf=>?_;exact dq
  by_cases c:k=9
  ·subst c;rw[YE];have hn:J.length<=1:=by simp[oB]at V;omega
   have T:i64.wrap (27-(((aa J).length:Nat):Int))=27-(J.length:Int):=by rw[aG,iy bn bn]
   have h1:=rY (27-(J.length:Int)) (eS J);have h2:=U cS;rw[<- T]at h1 ⊢;refine qn func154 call154 λβ hf=>?_;exact dq
  by_cases c:k=10
  ·subst c;rw[VC];have h2:=U cS;refine qn func154 call154 λβ hf=>?_;exact dq
  by_cases c:k=11
  ·subst c;rw[VD];have h1:=rY 23 (eS J);have h2:=U cS;refine qn func154 call154 λβ hf=>?_;exact dq
  by_cases c:k=12
  ·subst c;rw[VE];have hn:0<=n/\n<=1:=by simp[oB]at V;omega
   have T:i64.wrap (24+n)=24+n:=iy bn bn;have h1:=rY (24+n) (eS J);have h2:=U cS;rw[<- T]at h1 ⊢;refine qn func154 call154 λβ hf=>?_;exact dq
  by_cases c:k=13
  ·subst c;rw[VF];have G:∀x∈J,∃u,ig u=false/\bL x u=true/\vK x=11:=by
    intro x O;simp[oB]at V;have Re:=(fN _ _).1 V.1.2 x O;refine⟨_,?_,Re,acY Re⟩;obtain⟨OH,jG⟩:=jk hb;rw[<- (qm S).1]at OH;have:arity 13=2:=by decide
    simp only[ig,aeQ];exact⟨aap (by(simp;have:arity 11=2:=by decide);omega),jG⟩
   refine qn func154 call154 λβ hf=>?_
   repeat' (first|refine sz ?_|refine zc ?_ ?_|(intro h;first|(cases h;done)|rw[h]|skip)|(refine uA Z ?_ ?_<;>(try (show(_:Nat)*_<=_;dsimp only))))
   refine AK.fV [(2,2),(3,3)] [(6003,(0,none))] (env':=[(59,.c (.int .i64 (0:Nat))),(58,.c (.int .i64 (aa J).length)),(57,.c (.sl 7 (aa J))),(2,.ptr 2 0),(3,.ptr 3 0)])
    (bs':=[(2,[.c (.int .i64 0),.c (.int .i64 0),.c (.int .i64 0),.c (.str []),.own .exact 5 []]),(3,[.c (.int .i64 3),.c (.int .i64 0),.c (.int .i64 0),.c (.str []),.own (.tok 6003 0) 5 []])]) (ts':=[(6003,0)]) (us':=[2,3,6003])
    ce ce Z ?_
   refine AK.eL (α:=Nat×L Nd) (λz=>z.1<=J.length/\z.1=z.2.length/\nJ J=z.2++nJ (J.drop z.1)) (λz=>J.length-z.1)
    (λz=>[(59,.c (.int .i64 z.1)),(58,.c (.int .i64 (aa J).length)),(57,.c (.sl 7 (aa J))),(2,.ptr 2 0),(3,.ptr 3 0)])
    (λz=>[(2,[.c (.int .i64 0),.c (.int .i64 0),.c (.int .i64 0),.c (.str []),.own .exact 5 []]),(3,[.c (.int .i64 3),.c (.int .i64 0),.c (.int .i64 0),.c (.str []),.own (.tok 6003 0) 5 (aH z.2)])]) (λ_=>[(6003,0)]) [2,3,6003] (0,[])
    ⟨bn,Z,cS⟩ ce ⟨Z,Z,trivial⟩ ⟨Z,trivial⟩ Z Z Z ?_
   rintro⟨i,acc⟩ ⟨hi,El,N⟩ ih;simp only at hi El N;rcases iq J i hi with ⟨x,O,D⟩|he
   ·have hc:=wv O;have h2:=bD O;obtain⟨u,I,H,u3⟩:=G x D;obtain⟨x1,x2,x3,x4,E,x6,x7⟩:=x;have A:x1=11:=u3;have q:=fy D;simp only[aM]at q;have XW:=kg E;have hq:=CI E bn λy Q=>by
     obtain⟨w,w1,w2⟩:=kids H I (by simp[A]) y Q;exact M x1 x2 x3 x4 E x6 x7 D y Q w w1 w2
    have hp:=rY 28 (eS E);rw[dZ O,Pj]at N;rw[show ∀(a:L Nd)(b:Nd)(c:L Nd),a++b::c=a++[b]++c from λa b c=>by simp]at N
    repeat' (first|refine sz ?_|refine zc ?_ ?_|(intro h;first|(cases h;done)|rw[h]|skip)|refine uI Z (i) Z (fA O) Z ?_|refine uC Z hq ?_|refine uC Z hp ?_|(refine uA Z ?_ ?_<;>(try (show(_:Nat)*_<=_;dsimp only))))
    ·have h1:=bt acc;simp only[aac,aad];omega
    ·have p:aH acc++[aW (Nd.mk 2 0 28 [] (eS E))]=aH (acc++[Nd.mk 2 0 28 [] (eS E)]):=(mF acc [_]).symm;refine AK.fV [(2,2),(3,3)] [(6003,(0,some 6003))] (env':=[(59,.c (.int .i64 ((i+1:Nat):Int))),(58,.c (.int .i64 (aa J).length)),(57,.c (.sl 7 (aa J))),(2,.ptr 2 0),(3,.ptr 3 0)])
      (bs':=[(2,[.c (.int .i64 0),.c (.int .i64 0),.c (.int .i64 0),.c (.str []),.own .exact 5 []]),(3,[.c (.int .i64 3),.c (.int .i64 0),.c (.int .i64 0),.c (.str []),.own (.tok 6003 0) 5 (aH (acc++[Nd.mk 2 0 28 [] (eS E)]))])]) (ts':=[(6003,0)]) (us':=[2,3,6003])
      ⟨⟨_,Z,.inl (ku (i:=i) bn)⟩,⟨_,Z,.inl Z⟩,⟨_,Z,.inl Z⟩,⟨_,Z,⟨_,Z,Z⟩⟩,⟨_,Z,⟨_,Z,Z⟩⟩,trivial⟩ ⟨ce,⟨_,_,Z,Z,⟨_,_,Z,.inl Z,⟨_,_,Z,.inl Z,⟨_,_,Z,.inl Z,⟨_,_,Z,.inl Z,⟨_,_,Z,⟨_,Z,.inr ⟨_,_,Z,Z,aeb (AV.own (.tok 6003 1) 5) p⟩⟩,Z⟩⟩⟩⟩⟩⟩,trivial⟩ Z ?_
     exact ih (i+1,acc++[Nd.mk 2 0 28 [] (eS E)]) ⟨h2,by simp[El],N⟩ fo
   ·have hc:=rV he;have h0:nJ J=acc:=by rw[N,he,aex,Tf,aec]
    rw[h0];clear ih N;exact dq
  rw[YF k n a bn];have e1:(k==1)=false:=by simp;omega
  have e2:(k==2)=false:=by simp;omega
  have e3:(k==6)=false:=by simp;omega
  have e4:(k==9)=false:=by simp;omega
  have e5:(k==10)=false:=by simp;omega
  have e6:(k==11)=false:=by simp;omega
  have e7:(k==12)=false:=by simp;omega
  have e8:(k==13)=false:=by simp;omega
  refine qn func154 call154 λβ hf=>?_;exact dq
termination_by v=>SizeOf.sizeOf v
decreasing_by
 ·have h1:=aee O;simp at h1 ⊢;omega
 ·have h1:=aee O;have h2:=aee Q;simp at h1 h2 ⊢;omega
end Go.Proofs
namespace Go.Proofs
open Go.cK
def Mo(n:Int):1<=(jU n).length:=by
 have:=YG n;cases h:jU n with
 |nil=>exact absurd h this
 |cons a b=>simp
mutual
def CJ:∀(t:Nd)(d:Int),eR t d=0->bM t<=(eI t).length
 |.mk T n p s J,d,h=>by
  obtain⟨h1,h2⟩:=jT h;obtain⟨_,D,_,_,Y,ha,_,_,_⟩:=ni h1;have V:=AG J (d+1) h2;have U:=Mo (s.length:Int);have S:=Mo (J.length:Int);simp only[bM];rcases D with rfl|rfl|⟨rfl,Q⟩|rfl
  ·obtain rfl:=Y bn;have:=ha bn;rw[agf]at this;subst this;rw[VG];simp[aU]
  ·have:=ha bn;rw[agf]at this;subst this;rw[VH];simp only[aU,aac,aaz];omega
  ·obtain rfl:=Y bn;rw[VI];simp only[aac,aaz,aad];omega
  ·obtain rfl:=Y bn;rw[VJ];simp only[aac,aaz,aad];omega
def AG:∀(l:L Nd)(d:Int),dI l d=0->aU l<=(fG l).length
 |[],d,_=>by simp[aU]
 |t::l,d,h=>by
  have h1:=BO h t cS;have h2:dI l d=0:=by simp only[dI]at h;rw[if_pos h1]at h;exact h
  have W:=CJ t d h1;have K:=AG l d h2;simp only[fG,aU,aaz];omega
end
attribute [local irreducible] AK af bg cn fF eI dY sH
end Go.Proofs
namespace Go.Proofs
open Go.cK
def G5{s:L UInt8}{n:Nat}(Y:s.length<=n):bM (fF s).1<=n+1:=by
 by_cases S:(fF s).2=0
 ·obtain⟨G,Q⟩:=JO S;have h1:=CJ _ 1 (kf.1 G).1;rw[Q]at h1;omega
 ·rw[Mp S];simp[uo,bM,aU]
def Mq(t:Ty):iw t []=(ou,1):=rfl
def uJ(t:Ty)(c:UInt8)(r:L UInt8)(h:¬(c=5/\(c::r).length<=200/\gW t=true/\(fF r).2=0)):iw t (c::r)=(ou,1):=by simp only[iw,if_neg h]
def Pk(t:Ty)(r:L UInt8)(h:(5::r:L UInt8).length<=200/\gW t=true/\(fF r).2=0):iw t (5::r)=gD t (fF r).1:=by
 unfold iw;exact if_pos ⟨Z,h⟩
attribute [local irreducible] AK af bg cn eV eS nJ nG bL dY fF eI dV bB gW gD iw
def Pm(t:Ty)(v:Vl)(G:ig t=false)(U:bL v t=true)(T:aM v<=8589934593):ah 133 [bH v] (.eY [.str (vw v).1,.int .i64 (vw v).2]):=by
 have Y:=zA v t G U T;have A:=EW v;have S:=JP (eV v) bn;rw[EX]at S;unfold vw;obtain⟨N,C,K,P,J,u,H⟩:=v;rcases D:eV (.mk N C K P J u H)with ⟨V,Q,M,O,W⟩
 rw[D]at Y S;by_cases e:dY (.mk V Q M O W)=0
 ·rw[if_pos e];rw[if_pos e]at S;simp only at S;generalize eI (.mk V Q M O W)=bs at S;by_cases E:200<=bs.length
  ·rw[if_pos E];have I:decide (((bs.length:Nat):Int)>=200)=true:=aak bn;refine qn func133 call133 λβ hf=>?_;exact dq
  ·rw[if_neg E];have I:decide (((bs.length:Nat):Int)>=200)=false:=aap bn;refine qn func133 call133 λβ hf=>?_
   repeat' (first|refine sz ?_|refine zc ?_ ?_|(intro h;first|(cases h;done)|rw[h]|skip)|refine uC Z Y ?_|refine uC Z S ?_|refine af.concat hX kn Z Z Z Z Z (show 1+bs.length<=9223372036854775807 from by omega) ?_)
   all_goals rfl
 ·rw[if_neg e];rw[if_neg e]at S;simp only at S;have I:(dY (.mk V Q M O W) != 0)=true:=by simpa using e
  generalize dY (.mk V Q M O W)=z at S I;refine qn func133 call133 λβ hf=>?_;exact dq
def nH(t:Ty)(n:Nd)(M:bw t<=8589934593)(V:bM n<=8589934593):ah 69 [dg t,aW n] (.eY [bH (gD t n).1,.int .i64 (gD t n).2]):=by
 have h1:=lE t M;have h2:=qL n V;obtain⟨T,ts⟩:=t;obtain⟨U,a2,D,P,C⟩:=n;cases g1:bB (.mk T ts)with
 |false =>
  rw[g1]at h1;rw[show gD (.mk T ts) (.mk U a2 D P C)=(ou,1)from by unfold gD;rw[if_neg (by simp[g1])]];refine qn func69 call69 λβ hf=>?_;exact dq
 |true =>
 rw[g1]at h1;by_cases H:dY (.mk U a2 D P C)=0;rotate_left
 ·rw[show gD (.mk T ts) (.mk U a2 D P C)=(ou,1)from by unfold gD;rw[if_neg (λh=>H h.2.1)]];have E:(dY (.mk U a2 D P C) != 0)=true:=by simpa using H
  generalize dY (.mk U a2 D P C)=z at h2 E;refine qn func69 call69 λβ hf=>?_;exact dq
 rw[H]at h2;have Y:=uK (.mk U a2 D P C) (.mk T ts) (nj g1) V M;have A:=xZ (.mk U a2 D P C) (.mk T ts);have S:=BP (dV (.mk U a2 D P C) (.mk T ts)).1 (.mk T ts) (nj g1) bn M;rcases I:dV (.mk U a2 D P C) (.mk T ts)with ⟨⟨W,Q,O,N,K,J,G⟩,b⟩
 rw[I]at Y S;simp only at Y S;cases b with
 |false =>
  rw[show gD (.mk T ts) (.mk U a2 D P C)=(ou,1)from by unfold gD;rw[if_neg (by simp[I])]];refine qn func69 call69 λβ hf=>?_;exact dq
 |true =>
  cases B:bL (.mk W Q O N K J G) (.mk T ts)with
  |false =>
   rw[B]at S;rw[show gD (.mk T ts) (.mk U a2 D P C)=(ou,1)from by unfold gD;rw[if_neg (by simp[I,B])]];refine qn func69 call69 λβ hf=>?_;exact dq
  |true =>
   rw[B]at S;rw[show gD (.mk T ts) (.mk U a2 D P C)=(.mk W Q O N K J G,0)from by unfold gD;rw[I,if_pos ⟨g1,H,Z,B⟩]];refine qn func69 call69 λβ hf=>?_;exact dq
def yL:L UInt8->L UInt8×Bool
 |[]=>([],false)
 |c::r=>if c=5 then(r,true)else(c::r,false)
def DC(s:L UInt8):ah 168 [.str s,.str [5]] (.bool (yL s).2):=by
 cases s with
 |nil =>
  refine qn func168 call168 λβ hf=>?_;exact dq
 |cons c r =>
  have I:decide ((((c::r).length:Nat):Int)>=((([5]:L UInt8).length:Nat):Int))=true:=aak Rl;have W:(yL (c::r)).2=([c]==[5]):=by
   simp only[yL];by_cases h:c=5
   ·rw[if_pos h,h];rfl
   ·rw[if_neg h];simp[h]
  rw[W];refine qn func168 call168 λβ hf=>?_;exact dq
def BQ(s:L UInt8):ah 163 [.str s,.str [5]] (.eY [.str (yL s).1,.bool (yL s).2]):=by
 have h1:=DC s;cases s with
 |nil =>
  refine qn func163 call163 λβ hf=>?_;exact dq
 |cons c r =>
  by_cases h:c=5
  ·subst h;rw[show yL (5::r)=(r,true)from by simp[yL]]at h1 ⊢;simp only at h1;refine qn func163 call163 λβ hf=>?_;exact dq
  ·rw[show yL (c::r)=(c::r,false)from by simp[yL,h]]at h1 ⊢;simp only at h1;refine qn func163 call163 λβ hf=>?_;exact dq
def DD(s:L UInt8):ah 155 [.str s,.str [5]] (.eY [.str (yL s).1,.bool (yL s).2]):=by
 have h1:=BQ s;generalize yL s=z at h1;refine qn func155 call155 λβ hf=>?_;exact dq
def AH(t:Ty)(s:L UInt8)(M:bw t<=8589934593):ah 134 [dg t,.str s] (.eY [bH (iw t s).1,.int .i64 (iw t s).2]):=by
 have h1:=DD s;have h2:=nC t bn;obtain⟨T,ts⟩:=t;cases s with
 |nil =>
  rw[Mq];refine qn func134 call134 λβ hf=>?_;exact dq
 |cons c r =>
 by_cases A:c=5;rotate_left
 ·rw[uJ _ _ _ (λh=>A h.1)];rw[show yL (c::r)=(c::r,false)from by simp[yL,A]]at h1;simp only at h1;refine qn func134 call134 λβ hf=>?_;exact dq
 subst A;rw[show yL (5::r)=(r,true)from by simp[yL]]at h1;simp only at h1;by_cases E:(5::r:L UInt8).length<=200;rotate_left
 ·rw[uJ _ _ _ (λh=>E h.2.1)];have I:decide ((((5::r:L UInt8).length:Nat):Int)>200)=true:=aak bn;have W:(bif false then true else decide ((((5::r:L UInt8).length:Nat):Int)>200))=true:=I;refine qn func134 call134 λβ hf=>?_;exact dq
 have I:decide ((((5::r:L UInt8).length:Nat):Int)>200)=false:=aap bn;cases H:gW (.mk T ts)with
 |false =>
  rw[H]at h2;rw[uJ _ _ _ (λh=>by rw[H]at h;exact absurd h.2.2.1 cS)];refine qn func134 call134 λβ hf=>?_;exact dq
 |true =>
 rw[H]at h2;have V:=JQ r;by_cases O:(fF r).2=0;rotate_left
 ·rw[uJ _ _ _ (λh=>O h.2.2.2)];rcases C:fF r with ⟨⟨U,a2,D,P,Y⟩,e⟩
  rw[C]at V O;simp only at V O;have G:(e != 0)=true:=by simpa using O
  refine qn func134 call134 λβ hf=>?_;exact dq
 rw[Pk _ _ ⟨E,H,O⟩];have N:=G5 (s:=r) (n:=200) (by simp only[aac]at E;omega);have S:=nH (.mk T ts) (fF r).1 M bn;rcases C:fF r with ⟨⟨U,a2,D,P,Y⟩,e⟩
 rw[C]at V S O;simp only at V S O;subst O;rcases Q:gD (.mk T ts) (.mk U a2 D P Y)with ⟨⟨K,J,B,u,q,p,y7⟩,W⟩
 rw[Q]at S;refine qn func134 call134 λβ hf=>?_;exact dq
end Go.Proofs
namespace Go.Proofs
open Go.cK
def lJ(r:CR):∃x y e,jF r = .eY [.agg [x,y],.int .i64 e]/\x.one=true/\y.one=true:=by
 unfold jF;split
 ·exact⟨_,_,_,Z,Z,Z⟩
 ·exact⟨_,_,_,Z,Z,Z⟩
attribute [local irreducible] AK af bg cn dP aP fY mH gW iT bB dY cE fD bf jN gD gV aX cT cM bX cx cg bW jF
def JR(P W:Int)(A:L UInt8)(J:L Nd)(B s:L Ty)(hP:40<=P)(hf:bW P J=some B)(Y:rJ s)(E:s.length<=9999999990)(T:aU J<=8589934593)
  (I:∀a∈J,∀u:L Ty,rJ u->u.length<=s.length+1->ah 23 [.sl 5 (aH (cI a)),.sl 2 (aA u)] (vr (cE (cI a) (u,false)))) :
  ah 49 [aW (.mk 2 W P A J),.sl 2 (aA B),.sl 2 (aA s)] (jF (mU P J (bf J) B s)):=by
 unfold mU;by_cases U:P<=44
 ·rw[if_pos U];have e1:decide (P<=44)=true:=aak U;have hq:=LC P W A J B s ⟨hP,U⟩ hf Y E;obtain⟨x,y,e,O,H,S⟩:=lJ (gV P J s);rw[O]at hq ⊢;refine qn func49 call49 λβ hf=>?_;exact dw
 rw[if_neg U];have e1:decide (P<=44)=false:=aap U;by_cases p:P=45
 ·subst p;rw[if_pos rfl];obtain⟨x0,q,t,rfl,rfl,ht⟩:=VK hf rfl;clear hf I;have ZU:=ht.2;have Q:=nH t q bn (by simp only[aU]at T;omega);have N:=nC t bn;rw[show [t].getD 0 kX=t from Z,show [x0,q].getD 1 uo=q from rfl];obtain⟨V,ws⟩:=t;obtain⟨y1,y2,y3,y4,y5⟩:=q;rcases hr:gD (.mk V ws) (.mk y1 y2 y3 y4 y5)with ⟨⟨v1,v2,v3,v4,v5,v6,v7⟩,e⟩
  rw[hr]at Q;simp only at Q ⊢;by_cases he:e=0;rotate_left
  ·rw[if_neg (λh=>he h.1),aD bT];have e2:(e != 0)=true:=by simpa using he
   refine qn func49 call49 λβ hf=>?_;exact dw
  subst he;cases M:gW (.mk V ws)with
  |false =>
   rw[M]at N;rw[if_neg (λh=>by simp at h),aD bT];refine qn func49 call49 λβ hf=>?_;exact dw
  |true =>
   rw[M]at N;have hp:=bE s [.mk V ws];rw[aI]at hp;rw[if_pos ⟨Z,Z⟩,aI];refine qn func49 call49 λβ hf=>?_;exact dw
 rw[if_neg p];have e2:(P==45)=false:=by simpa using p
 by_cases K:P<=58
 ·rw[if_pos K];have e3:decide (P<=58)=true:=aak K;have hq:=Eu P W A J B s ⟨bn,K⟩ hf Y E T I;obtain⟨x,y,e,O,H,S⟩:=lJ (aX P (bf J) B s);rw[O]at hq ⊢;refine qn func49 call49 λβ hf=>?_;exact dw
 rw[if_neg K];have e3:decide (P<=58)=false:=aap K;by_cases G:P<=63
 ·rw[if_pos G];have e4:decide (P<=63)=true:=aak G;have hq:=Jk P W A J B s ⟨bn,G⟩ hf Y E T I;obtain⟨x,y,e,O,H,S⟩:=lJ (cT P (bf J) B s);rw[O]at hq ⊢;refine qn func49 call49 λβ hf=>?_;exact dw
 rw[if_neg G];have e4:decide (P<=63)=false:=aap G;by_cases D:P<=68
 ·rw[if_pos D];have e5:decide (P<=68)=true:=aak D;have hq:=EY P W A J B s ⟨bn,D⟩ hf Y E T I;obtain⟨x,y,e,O,H,S⟩:=lJ (cM P J (bf J) B s);rw[O]at hq ⊢;refine qn func49 call49 λβ hf=>?_;exact dw
 rw[if_neg D];have e5:decide (P<=68)=false:=aap D;by_cases p6:P<=72\/P>=93
 ·rw[if_pos p6];have hq:=Et P s bn E;obtain⟨x,y,e,O,H,S⟩:=lJ (bX P s);rw[O]at hq ⊢;by_cases p7:P<=72
  ·have e6:decide (P<=72)=true:=aak p7;refine qn func49 call49 λβ hf=>?_;exact dw
  ·have e6:decide (P<=72)=false:=aap p7;have e7:decide (P>=93)=true:=aak bn;refine qn func49 call49 λβ hf=>?_;exact dw
 rw[if_neg p6];have e6:decide (P<=72)=false:=aap bn;have e7:decide (P>=93)=false:=aap bn;by_cases C:P<=83
 ·rw[if_pos C];have e8:decide (P<=83)=true:=aak C;have hq:=Lt P J B s ⟨bn,C⟩ hf Y E;obtain⟨x,y,e,O,H,S⟩:=lJ (cx P B s);rw[O]at hq ⊢;refine qn func49 call49 λβ hf=>?_;exact dw
 ·rw[if_neg C];have e8:decide (P<=83)=false:=aap C;have hq:=Jj P J B s ⟨bn,bn⟩ hf Y E;obtain⟨x,y,e,O,H,S⟩:=lJ (cg P B s);rw[O]at hq ⊢;refine qn func49 call49 λβ hf=>?_;exact dw
def Mr(n:Nd)(s:L Ty)(G:rJ s)(E:s.length<=9999999990)(A:bM n<=8589934593)
  (Y:ah 23 [.sl 5 (aH (cI n)),.sl 2 (aA s)] (vr (cE (cI n) (s,false))))
  (I:∀a∈cI n,∀Q:L Ty,rJ Q->Q.length<=s.length+1->ah 23 [.sl 5 (aH (cI a)),.sl 2 (aA Q)] (vr (cE (cI a) (Q,false)))) :
  ah 35 [aW n,.sl 2 (aA s)] (jF (fD n s)):=by
 obtain⟨T,N,P,S,J⟩:=n;simp only[cI]at Y I;simp only[bM]at A;by_cases O:T=3
 ·subst O;rw[show fD (.mk 3 N P S J) s=cE J (s,false)from by simp only[fD,if_true]];generalize cE J (s,false)=r at Y;obtain⟨⟨t,b⟩,e⟩:=r;clear I;refine qn func35 call35 λβ hf=>?_;exact dw
 have U:(T==3)=false:=by simpa using O
 by_cases W:T=2;rotate_left
 ·have q:(T != 2)=true:=by simpa using W
  rw[show fD (.mk T N P S J) s=aR 1 from by simp only[fD,if_neg O,if_pos W],aD bT];clear Y I;refine qn func35 call35 λβ hf=>?_;exact dw
 subst W;have V:=Lo 2 N P S J bn;cases hf:bW P J with
 |none =>
  rw[show fD (.mk 2 N P S J) s=aR 1 from by simp only[fD,hf];rfl,aD bT];rw[hf]at V;clear Y I;refine qn func35 call35 λβ hf=>?_;exact dw
 |some B =>
  have p:40<=P:=by
   unfold bW at hf;split at hf
   ·cases hf
   ·omega
  rw[show fD (.mk 2 N P S J) s=mU P J (bf J) B s from by simp only[fD,hf];rfl];have hq:=JR P N S J B s p hf G E bn I;rw[hf]at V;obtain⟨x,y,e,u,H,M⟩:=lJ (mU P J (bf J) B s);rw[u]at hq ⊢;clear Y I;refine qn func35 call35 λβ hf=>?_;exact dw
end Go.Proofs
namespace Go.Proofs
open Go.cK
def VL{t:L Ty}{f:Bool}{e:Int}(h:e≠0):jF ((t,f),e) = .eY [.agg [.any,.any],.int .i64 e]:=by unfold jF;rw[if_neg h]
def wJ(n:Nd):aU (cI n)+1<=bM n:=by cases n;simp only[cI,bM];omega
def H8(n:Nd):SizeOf.sizeOf (cI n)<SizeOf.sizeOf n:=by cases n;simp only[cI,Nd.mk.sizeOf_spec];omega
def YH(x:Nd)(l:L Nd)(o:L Ty):cE (x::l) (o,true)=aR 1:=by simp only[cE,if_true]
def YI(x:Nd)(l:L Nd)(o:L Ty):cE (x::l) (o,false)=if(mm (fD x o)).2≠0 then aR (mm (fD x o)).2 else cE l (mm (fD x o)).1:=by
 simp only[cE];rfl
def aaZ(o:L Ty×Bool):cE [] o=(o,0):=by simp only[cE]
def YJ{t:L Ty}{f:Bool}{e:Int}(h:e≠0):mm ((t,f),e)=aR e:=by unfold mm;rw[if_pos h]
def YK{t:L Ty}{f:Bool}(h:40<t.length):mm ((t,f),0)=aR 7:=by unfold mm;rw[if_neg (by simp),if_pos h]
def YL{t:L Ty}{f:Bool}(h:¬40<t.length)(G:t.all bB=false):mm ((t,f),0)=aR 4:=by unfold mm;rw[if_neg (by simp),if_neg h,if_neg (by rw[G];decide)]
def YM{t:L Ty}{f:Bool}(h:¬40<t.length)(G:t.all bB=true):mm ((t,f),0)=((t,f),0):=by unfold mm;rw[if_neg (by simp),if_neg h,if_pos G]
attribute [local irreducible] AK af bg cn dP aP bB dY cE fD jF
def zB:∀(l:L Nd)(s:L Ty)(B:Nat),rJ s->s.length<=B->40<=B->B+aU l<=9000000000->aU l<=8589934593 ->
  ah 23 [.sl 5 (aH l),.sl 2 (aA s)] (vr (cE l (s,false)))
 |l,s,B,hs,hB,P,hBl,hl=>by
  have V:∀x∈l,∀o:L Ty,rJ o->o.length<=B->ah 35 [aW x,.sl 2 (aA o)] (jF (fD x o)):=by
   intro x O o K T;have hxs:=eX O;have hxa:=wJ x;refine Mr x o K bn bn (zB (cI x) o B K T P bn bn) (λa ha s' M hl'=>?_);have has:=eX ha;have haa:=wJ a;exact zB (cI a) s' (B+1) M bn bn bn bn
  have Rb:=gG l;refine qn func23 call23 λβ hf=>?_;refine dnw ?_;refine AK.eL (α:=Nat×(L Ty×Bool)) (λz=>z.1<=l.length/\rJ z.2.1/\z.2.1.length<=B/\cE l (s,false)=cE (l.drop z.1) z.2) (λz=>l.length-z.1)
   (λz=>[(16,.c (.int .i64 z.1)),(15,.c (.int .i64 (aH l).length)),(14,.c (.sl 5 (aH l))),(6,.ptr 6 0),(4,.ptr 4 0)])
   (λz=>[(6,[.c (.sl 2 (aA z.2.1)),.c (.bool z.2.2)]),(4,[.own .exact 2 [],.c (.bool false)])]) (λ_=>[]) [6,4] (0,(s,false))
   ⟨bn,hs,hB,Z⟩ ce ⟨Z,Z,trivial⟩ trivial Z Z Z ?_
  rintro⟨i,⟨o,b⟩⟩ ⟨D,K,T,N⟩ ih;simp only at D K T N;rcases iq l i D with ⟨x,O,hm⟩|S
  ·have hc:=mT O;have h2:=bD O;rw[dZ O]at N;cases b with
   |true =>
    rw[YH]at N;rw[N,jM];clear ih V N;obtain⟨k1,k2,k3,k4,k5⟩:=x;have vV:=eO O;exact dw
   |false =>
    rw[YI]at N;have hq:=V x hm o K T;have A:=X7 x o K;clear V;generalize fD x o=r at hq A N;obtain⟨⟨Q,f'⟩,e⟩:=r;obtain⟨k1,k2,k3,k4,k5⟩:=x;by_cases S:e=0;rotate_left
    ·rw[YJ S,if_pos (show(aR e).2≠0 from S)]at N;rw[VL S]at hq;rw[N,jM];have u:(e != 0)=true:=by simpa using S
     clear ih N;have Ep:=eO O;exact dw
    subst S;rw[Ll]at hq;have z1:=aZ Q;by_cases p:40<Q.length
    ·rw[YK p,if_pos (show(aR 7).2≠0 from by decide)]at N;rw[N,jM];have u:decide ((((aA Q).length:Nat):Int)>40)=true:=aak bn;clear ih N;have Ji:=eO O;exact dw
    have u:decide ((((aA Q).length:Nat):Int)>40)=false:=aap bn
    repeat' (first|refine kz ?_|refine zc ?_ ?_|(intro h;first|(cases h;done)|rw[h]|skip)|refine uI Z (i) Z (eO O) Z ?_|refine uC Z hq ?_)
    refine AK.eL (α:=Nat) (λj=>j<=Q.length/\Q.all bB=(Q.drop j).all bB) (λj=>Q.length-j)
     (λj=>[(42,.c (.int .i64 j)),(41,.c (.int .i64 (aA Q).length)),(40,.c (.sl 2 (aA Q))),(16,.c (.int .i64 i)),(15,.c (.int .i64 (aH l).length)),(14,.c (.sl 5 (aH l))),(6,.ptr 6 0),(4,.ptr 4 0)])
     (λj=>[(6,[.c (.sl 2 (aA Q)),.c (.bool f')]),(4,[.own .exact 2 [],.c (.bool false)])]) (λ_=>[]) [6,4] 0
     ⟨bn,Z⟩ ce ⟨Z,Z,trivial⟩ trivial Z Z Z ?_
    rintro j ⟨hj,Y⟩ jh;rcases iq Q j hj with ⟨y,G,J⟩|q
    ·have I:=Jg G;have H:=bD G;have hys:bw y<=2000:=A y J;have E:=lE y bn;rw[dZ G,aeL]at Y;obtain⟨U,us⟩:=y;cases W:bB (.mk U us)with
     |false =>
      rw[W]at E Y;rw[aez]at Y;rw[YL p Y,if_pos (show(aR 4).2≠0 from by decide)]at N;rw[N,jM];clear ih jh N;have Lr:=gA G;exact dw
     |true =>
      rw[W]at E Y;rw[aeR]at Y
      repeat' (first|refine kz ?_|refine zc ?_ ?_|(intro h;first|(cases h;done)|rw[h]|skip)|refine uI Z (j) Z (gA G) Z ?_|refine uC Z E ?_)
      exact AK.again (jh (j+1) ⟨H,Y⟩ bn) ⟨.inl (gB (i:=j) bn),.inl Z,.inl Z,.inl Z,.inl Z,.inl Z,.inl Z,.inl Z,trivial⟩ ⟨Z,Z,trivial⟩ trivial Z Z Z
    ·have I:=DL q;have C:Q.all bB=true:=by rw[Y,q,aex];rfl
     rw[YM p C,if_neg cS]at N;clear jh
     repeat' (first|refine kz ?_|refine zc ?_ ?_|(intro h;first|(cases h;done)|rw[h]|skip))
     exact AK.again (ih (i+1,(Q,f')) ⟨h2,s9 C,by show Q.length<=B;omega,N⟩ Hg) ⟨.inl (gB (i:=i) bn),.inl Z,.inl Z,.inl Z,.inl Z,trivial⟩ ⟨Z,Z,trivial⟩ trivial Z Z Z
  ·have hc:=kr S;have h0:cE l (s,false)=((o,b),0):=by rw[N,S,aex,aaZ]
   rw[h0];clear ih N V;exact dw
termination_by l=>SizeOf.sizeOf l
decreasing_by
 all_goals
  have h1:=aee O;have h2:=H8 x
  first
   |omega
   |((have h3:=aee ha);have h4:=H8 a;omega)
def uL(n:Nd)(s:L Ty)(B:bM n<=8589934593)(hs:bz s<=8589934593):ah 9 [aW n,.sl 2 (aA s)] (vr (jP n s)):=by
 have h1:=qL n B;have zl:=j9 s;have z1:=aZ s;unfold jP;by_cases G:dY n≠0
 ·rw[if_pos G,jM];have I:(dY n != 0)=true:=by simpa using G
  generalize dY n=z at h1 I;obtain⟨u,A,K,H,T⟩:=n;refine qn func9 call9 λβ hf=>?_;exact dw
 rw[if_neg G];have S:dY n=0:=by simpa using G
 rw[S]at h1;have P:=wJ n;obtain⟨u,A,K,H,T⟩:=n;simp only[cI]at P;by_cases D:u≠3
 ·simp only[if_pos D];rw[jM];have I:(u != 3)=true:=by simpa using D
  refine qn func9 call9 λβ hf=>?_;exact dw
 obtain rfl:u=3:=by simpa using D
 simp only[if_neg (show ¬((3:Int)≠3)from by simp)];by_cases E:40<s.length
 ·rw[if_pos E,jM];have I:decide ((((aA s).length:Nat):Int)>40)=true:=aak bn;refine qn func9 call9 λβ hf=>?_;exact dw
 rw[if_neg E];have I:decide ((((aA s).length:Nat):Int)>40)=false:=aap bn;refine qn func9 call9 λβ hf=>?_
 repeat' (first|refine kz ?_|refine zc ?_ ?_|(intro h;first|(cases h;done)|rw[h]|skip)|refine uC Z h1 ?_)
 refine AK.eL (α:=Nat) (λj=>j<=s.length/\s.all bB=(s.drop j).all bB) (λj=>s.length-j)
  (λj=>[(25,.c (.int .i64 j)),(24,.c (.int .i64 (aA s).length)),(23,.c (.sl 2 (aA s))),(1,.c (.sl 2 (aA s))),(2,.ptr 2 0),(4,.ptr 4 0)])
  (λj=>[(2,[.c (.int .i64 3),.c (.int .i64 A),.c (.int .i64 K),.c (.str H),.c (.sl 5 (aH T))]),(4,[.own .exact 2 [],.c (.bool false)])]) (λ_=>[]) [2,4] 0
  ⟨bn,Z⟩ ce ⟨Z,Z,trivial⟩ trivial Z Z Z ?_
 rintro j ⟨q,Y⟩ jh;rcases iq s j q with ⟨y,Q,O⟩|J
 ·have N:=Jg Q;have M:=bD Q;have p:=cL O;have W:=lE y bn;rw[dZ Q,aeL]at Y;obtain⟨U,us⟩:=y;cases V:bB (.mk U us)with
  |false =>
   rw[V]at W Y;rw[aez]at Y;rw[if_neg (by rw[Y];decide),jM];clear jh;have Ls:=gA Q;exact dw
  |true =>
   rw[V]at W Y;rw[aeR]at Y
   repeat' (first|refine kz ?_|refine zc ?_ ?_|(intro h;first|(cases h;done)|rw[h]|skip)|refine uI Z (j) Z (gA Q) Z ?_|refine uC Z W ?_)
   exact AK.again (jh (j+1) ⟨M,Y⟩ bn) ⟨.inl (gB (i:=j) bn),.inl Z,.inl Z,.inl Z,.inl Z,.inl Z,trivial⟩ ⟨Z,Z,trivial⟩ trivial Z Z Z
 ·have N:=DL J;have C:s.all bB=true:=by rw[Y,J,aex];rfl
  rw[if_pos C];have kZ:=fu s bn;have hr:=zB T s 40 (s9 C) bn bn bn bn;generalize cE T (s,false)=r at hr;obtain⟨⟨t,f⟩,e⟩:=r;clear jh;exact dw
end Go.Proofs
namespace Go.cK
mutual
def eP:Vl->Bool
 |.mk k _ _ _ J B code =>
  if k=14 then decide ((jP (.mk 3 0 0 [] code) (B.take 1)).2=0)&&((jP (.mk 3 0 0 [] code) (B.take 1)).1.2||gJ (jP (.mk 3 0 0 [] code) (B.take 1)).1.1 (B.drop 1)) && !jN code
  else eg J
def eg:L Vl->Bool
 |[]=>true
 |x::l=>eP x&&eg l
end
def gH(t:Ty)(v:Vl):Bool:=nG t v&&eP v
def jb(p s:Ty)(n:Nd):Int :=
 if(bB p&&bB s&&iT p&&iT s)=false then 5
 else if(jP n [.mk 11 [p,s]]).2≠0 then(jP n [.mk 11 [p,s]]).2
 else if(jP n [.mk 11 [p,s]]).1.2=false/\gJ (jP n [.mk 11 [p,s]]).1.1 [.mk 11 [.mk 10 [.mk 8 []],s]]=false then 5 else 0
mutual
def vL2:Vl->Bool
 |.mk k _ _ _ J B _=>(if k=14 then decide (B.length=2)else true)&&JS J
def JS:L Vl->Bool
 |[]=>true
 |x::l=>vL2 x&&JS l
end
mutual
def JT:∀(v:Vl)(t:Ty),mV t->bL v t=true->vL2 v=true
 |.mk k n a s J B code,.mk T ts,ok,h=>by
  have K:=EZ J;have E:=E0 J;have Q:J.length=0->JS J=true:=λh=>by rw[List.length_eq_zero_iff.1 h];rfl
  have P:=tH ok;unfold bL at h;by_cases Y:k≠bS (.mk T ts)\/cz (.mk k n a s J B code)=false\/200<s.length
  ·rw[if_pos Y]at h;cases h
  rw[if_neg Y]at h;have D:cz (.mk k n a s J B code)=true:=by
   cases hq:cz (.mk k n a s J B code)with
   |true=>rfl
   |false=>exact absurd (.inr (.inl hq)) Y
  have C:k=T:=afe λW=>Y (.inl W);subst C;clear Y;have d1:∀{p q:Prop}[Decidable (p/\q)],decide (p/\q)=true->q:=λh=>(aeg h).2;simp only[vL2,aai];by_cases V:k=14
  ·subst V;have N:B.length=2/\a=0/\n=0/\s=[]/\J.length=0:=by simpa[cz]using D
   exact⟨by simp[N.1],Q N.2.2.2.2⟩
  rw[if_neg V];refine⟨Z,?_⟩;by_cases u:k=1\/k=6
  ·rw[if_pos u]at h;exact Q (aeg h).2
  rw[if_neg u]at h;by_cases H:k=2
  ·rw[if_pos H]at h;exact Q (aeg h).2.2
  rw[if_neg H]at h;by_cases M:k=3
  ·rw[if_pos M]at h;exact Q (aeg h).2.2
  rw[if_neg M]at h;by_cases c4:k=4\/k=5
  ·rw[if_pos c4]at h;exact Q (aeg h).2.2
  rw[if_neg c4]at h;by_cases I:k=7
  ·rw[if_pos I]at h;exact Q (aeg h).2.2
  rw[if_neg I]at h;by_cases U:k=9
  ·rw[if_pos U,aai]at h;subst U;obtain⟨x,rfl,O⟩:=fJ ok bT;exact K x O h.2
  rw[if_neg U]at h;by_cases OI:k=10
  ·rw[if_pos OI,aai]at h;subst OI;obtain⟨x,rfl,O⟩:=fJ ok bT;exact K x O h.2
  rw[if_neg OI]at h;by_cases Tj:k=11
  ·rw[if_pos Tj,aai]at h;subst Tj;have z:=P.1;rw[show arity 11=2 from by decide]at z;exact E ts (λx O=>P.2 x O) h.2 W6
  rw[if_neg Tj]at h;by_cases Tk:k=12
  ·rw[if_pos Tk,aai]at h;subst Tk;obtain⟨x,y,rfl,O,A⟩:=fz ok bT;have hn:=aeg h.1;rcases(show n=0\/n=1 by omega)with rfl|rfl
   ·exact K x O h.2
   ·exact K y A h.2
  rw[if_neg Tk]at h;by_cases Tl:k=13
  ·rw[if_pos Tl,aai,aai]at h;subst Tl;exact K _ (Ap ok bT) h.1.2
  rw[if_neg Tl,if_neg V]at h;by_cases S:k=15
  ·rw[if_pos S,aai]at h;subst S;obtain⟨x,rfl,O⟩:=fJ ok bT;exact K x O h.2
  rw[if_neg S]at h;by_cases G:k=8
  ·rw[if_pos G,aai,aai]at h;exact K _ (cH h.1.2) h.2
  rw[if_neg G]at h;cases h
def EZ:∀(l:L Vl)(t:Ty),mV t->aS l t=true->JS l=true
 |[],_,_,_=>rfl
 |x::l,t,ok,h=>by
  simp only[aS,aai]at h;simp only[JS,aai];exact⟨JT x t ok h.1,EZ l t ok h.2⟩
def E0:∀(l:L Vl)(r:L Ty),(∀x∈r,mV x)->dL l r=true->l.length<=r.length->JS l=true
 |[],_,_,_,_=>rfl
 |x::l,[],_,_,h=>by simp at h
 |x::l,t::r,ok,h,hl=>by
  simp only[dL,aai]at h;simp only[JS,aai];exact⟨JT x t (ok t cS) h.1,E0 l r (λx O=>ok x abB) h.2 (by simpa using hl)⟩
end
def YN{t:Ty}{v:Vl}(h:nG t v=true):vL2 v=true:=by
 unfold nG at h;rw[aai]at h;exact JT v t (cH h.1) h.2
def Ms:∀{l:L Vl}{x:Vl},JS l=true->x∈l->vL2 x=true
 |y::l,x,h,O=>by
  simp only[JS,aai]at h;rcases List.mem_cons.1 O with rfl|O
  ·exact h.1
  ·exact Ms h.2 O
def H9:∀l:L Vl,eg l = !(l.any λx => !eP x)
 |[]=>rfl
 |x::l=>by simp only[eg,agR,H9 l,Bool.not_or,Bool.not_not]
end Go.cK
namespace Go.Proofs
open Go.cK
def E1(k n a:Int)(s:L UInt8)(J:L Vl)(p q:Ty)(code:L Nd)(D:k=14):eP (.mk k n a s J [p,q] code) =
  (decide ((jP (.mk 3 0 0 [] code) [p]).2=0)&&((jP (.mk 3 0 0 [] code) [p]).1.2||gJ (jP (.mk 3 0 0 [] code) [p]).1.1 [q]) && !jN code):=by
 unfold eP;rw[if_pos D];rfl
def Pn(k n a:Int)(s:L UInt8)(J:L Vl)(B:L Ty)(code:L Nd)(D:k≠14):eP (.mk k n a s J B code)=eg J:=by
 rw[eP,if_neg D]
attribute [local irreducible] AK af bg cn dP aP bB dY cE fD jP jN eP eg nG fY iT
def CL:∀(v:Vl),vL2 v=true->aM v<=8589934593->ah 39 [bH v] (.bool (eP v))
 |.mk k n a s J B code,h2,M=>by
  simp only[aM]at M;simp only[vL2,aai]at h2;by_cases D:k=14
  ·rw[if_pos D]at h2;obtain⟨p,q,rfl⟩:=CM (aeg h2.1);rw[E1 k n a s J p q code D];subst D;simp only[bz]at M;have A:=uL (.mk 3 0 0 [] code) [p] (by simp only[bM,aad];omega) (by simp only[bz];omega);have C:=vX code bn;have G := @BC (.mk 3 0 0 [] code) [p];generalize jP (.mk 3 0 0 [] code) [p]=r at A G;obtain⟨⟨t,f⟩,e⟩:=r;simp only at G ⊢;by_cases S:e=0;rotate_left
   ·have I:(e==0)=false:=by simpa using S
    rw[aap S,aez,aez];refine qn func39 call39 λβ hf=>?_;exact dw
   subst S;rw[aak Z,aeR];have Y:=vU t [q] (s9 (G Z).1) (by have:=(G Z).2.1;omega);cases f with
   |true =>
    rw[Bool.true_or,aeR];refine qn func39 call39 λβ hf=>?_;exact dw
   |false =>
    rw[ahl];cases hq:gJ t [q]with
    |false =>
     rw[hq]at Y;rw[aez];refine qn func39 call39 λβ hf=>?_;exact dw
    |true =>
     rw[hq]at Y;rw[aeR];refine qn func39 call39 λβ hf=>?_;exact dw
  ·rw[Pn k n a s J B code D,H9];have I:(k==14)=false:=by simpa using D
   have W:∀x∈J,ah 54 (bH x::[]) (.bool (!eP x)):=λx O=>by
    have C:=fy O;have hq:=CL x (Ms h2.2 O) bn;obtain⟨N,V,K,U,E,u,T⟩:=x;refine qn func54 call54 λβ hf=>?_;exact dw
   have Q:=kg J;have hq:=tI J (λx => !eP x) 54 [] W bn;clear W;refine qn func39 call39 λβ hf=>?_;exact dw
termination_by v=>SizeOf.sizeOf v
decreasing_by
 have:=aee O;simp at this ⊢;omega
def E2(t:Ty)(v:Vl)(I:bw t<=8589934593)(M:aM v<=8589934593):ah 26 [dg t,bH v] (.bool (gH t v)):=by
 have h1:=Tm t v I M;unfold gH;cases O:nG t v with
 |false =>
  rw[O]at h1;rw[aez];obtain⟨T,ts⟩:=t;obtain⟨N,C,K,Y,U,u,W⟩:=v;refine qn func26 call26 λβ hf=>?_;exact dw
 |true =>
  have h2:=CL v (YN O) M;rw[O]at h1;rw[aeR];obtain⟨T,ts⟩:=t;obtain⟨N,C,K,Y,U,u,W⟩:=v;refine qn func26 call26 λβ hf=>?_;exact dw
end Go.Proofs
