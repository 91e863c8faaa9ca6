/- What nodes, node, Node, Told, Pack, Parse and Unpack of package value  -/
import Derived.Test.YtdnpapgijbhofaaGreatDoorTree3
import Derived.Test.YtdnpapgijbhofaaGreatDoorTree4
import Derived.Test.YtdnpapgijbhofaaGreatDoorTree5
import Derived.Test.YtdnpapgijbhofaaGreatDoorChk3
import Derived.Test.YtdnpapgijbhofaaGreatDoorChkB
import Derived.Test.YtdnpapgijbhofaaGreatDoorChk7
import Derived.Test.YtdnpapgijbhofaaGreatDoorVal2
import Derived.Test.YtdnpapgijbhofaaGreatDoorVal4
open Go.IntKind
open Go.Proofs.Tryz
set_option linter.defProp false
set_option maxHeartbeats 0
set_option linter.unusedVariables false
set_option linter.unusedSimpArgs false
set_option maxRecDepth 100000
namespace Go.Proofs
open Go.cw
def kids{k n a:Int}{s:L UInt8}{M:L Vl}{V:L Ty}{code:L Nd}{t:Ty}(h:bE (.mk k n a s M V code) t=true)(U:iC t=false)(A:k=9\/k=10\/k=11\/k=12\/k=13) :
  ∀x∈M,∃u,iC u=false/\bE x u=true:=by
 intro x D;have C:=(rC h).1;have J:=mH h;obtain⟨W,Y⟩:=jD U;rw[<- C]at W;rcases A with rfl|rfl|rfl|rfl|rfl
 ·simp[pq]at J;have:arity 9=1:=by decide
  exact⟨_,dO Y (mJ (i:=0) ai),(fQ _ _).1 J.2 x D⟩
 ·simp[pq]at J;have:arity 10=1:=by decide
  exact⟨_,dO Y (mJ (i:=0) ai),(fQ _ _).1 J.2 x D⟩
 ·simp[pq]at J;have:arity 11=2:=by decide
  obtain⟨y,z,u,w,E,N,H,B⟩:=aaj J.1.2 ai J.2;rw[N]at Y;rw[E]at D;simp at D;rcases D with rfl|rfl
  exact⟨u,dO Y cc,H⟩;exact⟨w,dO Y cc,B⟩
 ·simp[pq]at J;have:arity 12=2:=by decide
  exact⟨_,dO Y (mJ (i:=n.toNat) ai),(fQ _ _).1 J.2 x D⟩
 simp[pq]at J;have:arity 13=2:=by decide
 refine⟨.mk 11 (aV t),?_,(fQ _ _).1 J.1.2 x D⟩;simp only[iC,afV];exact⟨aaY (by(simp;have:arity 11=2:=by decide);omega),Y⟩
def ae9{x:Vl}{ts:L Ty}(h:bE x (.mk 11 ts)=true):vK x=11:=by cases x with|mk k n a s M V code=>exact(rC h).1
def W5{G:kE}{a b c d:CV}{s t:Nat}{v:Value}(h:Rel G (.agg [a,b,c,d,.sl s []]) v):Rel G (.agg [a,b,c,d,.sl t []]) v:=by obtain⟨vs,E,N,H⟩:=h;refine⟨vs,E,?_,?_⟩;rw[b9]at N ⊢;obtain⟨Y,P,D,W,N⟩:=N;refine⟨Y,P,D,W,?_⟩;obtain⟨V,K,U,T,N⟩:=N;refine⟨V,K,U,T,?_⟩;obtain⟨S,Q,O,M,N⟩:=N;refine⟨S,Q,O,M,?_⟩;obtain⟨J,I,C,B,N⟩:=N;refine⟨J,I,C,B,?_⟩;obtain⟨A,u,q,fa,fb⟩:=N;exact⟨A,u,q,KT fa,fb⟩;simp at H ⊢;exact⟨H.1,H.2.1,H.2.2.1,H.2.2.2.1,rfl⟩
def NH(x:Vl)(l:L Vl):eT (x::l)=eX x::eT l:=by simp only[eT]
def QG:eT []=[]:=by simp only[eT]
def QH(k n a:Int)(s:L UInt8)(M:L Vl)(V:L Ty)(code:L Nd)(l:L Vl):oC (.mk k n a s M V code::l) = .mk 2 0 28 [] (eT M)::oC l:=by simp only[oC]
def UG:oC []=[]:=by simp only[oC]
def aak(n a:Int)(s:L UInt8)(M:L Vl)(V:L Ty)(code:L Nd):eX (.mk 1 n a s M V code) = .mk 2 0 20 [] []:=by simp[eX]
def aal(n a:Int)(s:L UInt8)(M:L Vl)(V:L Ty)(code:L Nd):eX (.mk 2 n a s M V code) = .mk 2 0 (22-n) [] []:=by simp[eX]
def aam(n a:Int)(s:L UInt8)(M:L Vl)(V:L Ty)(code:L Nd):eX (.mk 6 n a s M V code) = .mk 1 0 0 s []:=by simp[eX]
def aan(n a:Int)(s:L UInt8)(M:L Vl)(V:L Ty)(code:L Nd):eX (.mk 9 n a s M V code) = .mk 2 0 (27-M.length) [] (eT M):=by simp[eX]
def W6(n a:Int)(s:L UInt8)(M:L Vl)(V:L Ty)(code:L Nd):eX (.mk 10 n a s M V code) = .mk 3 0 0 [] (eT M):=by simp[eX]
def W7(n a:Int)(s:L UInt8)(M:L Vl)(V:L Ty)(code:L Nd):eX (.mk 11 n a s M V code) = .mk 2 0 23 [] (eT M):=by simp[eX]
def W8(n a:Int)(s:L UInt8)(M:L Vl)(V:L Ty)(code:L Nd):eX (.mk 12 n a s M V code) = .mk 2 0 (24+n) [] (eT M):=by simp[eX]
def W9(n a:Int)(s:L UInt8)(M:L Vl)(V:L Ty)(code:L Nd):eX (.mk 13 n a s M V code) = .mk 3 0 0 [] (oC M):=by simp[eX]
def aao(k n a:Int)(h:¬(k=1\/k=2\/k=6\/k=9\/k=10\/k=11\/k=12\/k=13))(s:L UInt8)(M:L Vl)(V:L Ty)(code:L Nd):eX (.mk k n a s M V code) = .mk 0 n 0 [] []:=by simp at h;simp[eX,h]
attribute [local irreducible] AK ah aR bM eX eT oC oA bE dZ fJ eJ dR br ig
def tg(p:Int)(l:L Nd):af 189 [.int .i64 p,.sl 5 (aD l)] (aM (.mk 2 0 p [] l)):=by exact qdq func189 call189
def BD(p:Int):af 189 [.int .i64 p,.sl 0 []] (aM (.mk 2 0 p [] [])):=by
 have h:af 189 [.int .i64 p,.sl 0 []] (.agg [.int .i64 2,.int .i64 0,.int .i64 p,.str [],.sl 0 []]):=by exact qdq func189 call189
 exact aR.weaken (λG v N=>W5 N) h
def DS(l:L Vl)(P:l.length<=1099511627776)(S:∀x∈l,af 183 [bA x] (aM (eX x))):af 190 [.sl 7 (aa l)] (.sl 5 (aD (eT l))):=by
 refine qn func190 call190 λβ hf=>?_;refine dn ?_;refine AK.fY [] [(6000,(0,none))] (env':=[(8,.c (.int .i64 (0:Nat))),(7,.c (.int .i64 (aa l).length)),(6,.c (.sl 7 (aa l))),(3,.own (.tok 6000 0) 5 [])])
  (bs':=[]) (ts':=[(6000,0)]) (us':=[6000])
  ce  trivial Z ?_
 refine AK.dN (α:=Nat×L Nd) (λz=>z.1<=l.length/\z.1=z.2.length/\eT l=z.2++eT (l.drop z.1)) (λz=>l.length-z.1)
  (λz=>[(8,.c (.int .i64 z.1)),(7,.c (.int .i64 (aa l).length)),(6,.c (.sl 7 (aa l))),(3,.own (.tok 6000 0) 5 (aD z.2))]) (λ_=>[]) (λ_=>[(6000,0)]) [6000] (0,[])
  ⟨ai,Z,cc⟩ ce trivial ⟨Z,trivial⟩ Z Z Z ?_
 rintro⟨i,acc⟩ ⟨U,V,H⟩ ih;simp only at U V H;rcases ie l i U with ⟨x,D,T⟩|O
 ·have Q:=xU D;have h2:=bt D;have hq:=S x T;rw[dK D,NH]at H;rw[show ∀(a:L Nd)(b:Nd)(c:L Nd),a++b::c=a++[b]++c from λa b c=>by simp]at H;rcases B:eX x with ⟨Y,A,I,K,q⟩
  rw[B]at hq H;obtain⟨J,N,u,M,G,E,x7⟩:=x
  repeat' (first|refine sz ?_|refine zc ?_ ?_|(intro h;first|(cases h;done)|rw[h]|skip)|refine uI Z (i) Z (fG D) Z ?_|refine uC Z hq ?_|(refine uA Z ?_ ?_<;>(try (show(_:Nat)*_<=_;dsimp only))))
  have h1:=aZ acc;simp only[aag,aay];omega;have W:aD acc++[aM (Nd.mk Y A I K q)]=aD (acc++[Nd.mk Y A I K q]):=(ng acc [_]).symm;refine AK.fY [] [(6000,(0,some 6000))] (env':=[(8,.c (.int .i64 ((i+1:Nat):Int))),(7,.c (.int .i64 (aa l).length)),(6,.c (.sl 7 (aa l))),(3,.own (.tok 6000 0) 5 (aD (acc++[Nd.mk Y A I K q])))])
   (bs':=[]) (ts':=[(6000,0)]) (us':=[6000])
   ⟨⟨_,Z,.inl (kL (i:=i) ai)⟩,⟨_,Z,.inl Z⟩,⟨_,Z,.inl Z⟩,⟨_,Z,⟨_,Z,.inr ⟨_,_,Z,Z,aeM (AV.own (.tok 6000 1) 5) W⟩⟩⟩,trivial⟩ trivial Z ?_
  exact ih (i+1,acc++[Nd.mk Y A I K q]) ⟨h2,by simp[V],H⟩ N2
 have Q:=tf O;have C:eT l=acc:=by rw[H,O,aeT,QG,aeO]
 rw[C];clear ih H;exact dq
def AD:∀(v:Vl)(t:Ty),iC t=false->bE v t=true->aH v<=8589934593->af 183 [bA v] (aM (eX v))
 |.mk k n a s M G code,t,hb,E,hv=>by
  simp only[aH]at hv;have Kz:=kI M;have Q:∀x∈M,∀u,iC u=false->bE x u=true->af 183 [bA x] (aM (eX x)):=λx D u h1 h2=>AD x u h1 h2 acL;have P:∀k' n' a' s' U Y W,Vl.mk k' n' a' s' U Y W∈M->∀y∈U,∀u,iC u=false->bE y u=true->af 183 [bA y] (aM (eX y)):=λk' n' a' s' U Y W D y q u h1 h2=>AD y u h1 h2 (by have h3:=fC D;have h4:=fC q;simp only[aH]at h3;omega);have J:=mH E;have O:=kids E hb;have V:(k=9\/k=10\/k=11\/k=12\/k=13)->af 190 [.sl 7 (aa M)] (.sl 5 (aD (eT M))):=λh=>DS M ai λx D=>by obtain⟨u,N,K⟩:=O h x D;exact Q x D u N K
  by_cases c:k=1;subst c;rw[aak];have h1:=BD 20;exact qdq func183 call183;by_cases c:k=2;subst c;rw[aal];have hn:0<=n/\n<=1:=(by simp[pq]at J;omega);have S:i64.wrap (22-n)=22-n:=iB ai ai;have h1:=BD (22-n);rw[<- S]at h1 ⊢;exact qdq func183 call183;by_cases c:k=6;subst c;rw[aam];exact qdq func183 call183;by_cases c:k=9;subst c;rw[aan];have hn:M.length<=1:=(by simp[pq]at J;omega);have S:i64.wrap (27-(((aa M).length:Nat):Int))=27-(M.length:Int):=(by rw[aB,iB ai ai]);have h1:=tg (27-(M.length:Int)) (eT M);have h2:=V cc;rw[<- S]at h1 ⊢;exact qdq func183 call183;by_cases c:k=10;subst c;rw[W6];have h2:=V cc;exact qdq func183 call183;by_cases c:k=11;subst c;rw[W7];have h1:=tg 23 (eT M);have h2:=V cc;exact qdq func183 call183;by_cases c:k=12;subst c;rw[W8];have hn:0<=n/\n<=1:=(by simp[pq]at J;omega);have S:i64.wrap (24+n)=24+n:=iB ai ai;have h1:=tg (24+n) (eT M);have h2:=V cc;rw[<- S]at h1 ⊢;exact qdq func183 call183;by_cases c:k=13
  ·subst c;rw[W9];have I:∀x∈M,∃u,iC u=false/\bE x u=true/\vK x=11:=(by intro x D;simp[pq]at J;have SU:=(fQ _ _).1 J.1.2 x D;refine⟨_,?_,SU,ae9 SU⟩;obtain⟨Qb,iU⟩:=jD hb;rw[<- (rC E).1]at Qb;have:arity 13=2:=(by decide);simp only[iC,afV];exact⟨aaY (by(simp;have:arity 11=2:=by decide);omega),iU⟩);refine qn func183 call183 λβ hf=>?_
   repeat' (first|refine sz ?_|refine zc ?_ ?_|(intro h;first|(cases h;done)|rw[h]|skip)|(refine uA Z ?_ ?_<;>(try (show(_:Nat)*_<=_;dsimp only))))
   refine AK.fY [(2,2),(3,3)] [(6003,(0,none))] (env':=[(59,.c (.int .i64 (0:Nat))),(58,.c (.int .i64 (aa M).length)),(57,.c (.sl 7 (aa M))),(2,.ptr 2 0),(3,.ptr 3 0)])
    (bs':=[(2,[.c (.int .i64 0),.c (.int .i64 0),.c (.int .i64 0),.c (.str []),.own .exact 5 []]),(3,[.c (.int .i64 3),.c (.int .i64 0),.c (.int .i64 0),.c (.str []),.own (.tok 6003 0) 5 []])]) (ts':=[(6003,0)]) (us':=[2,3,6003])
    ce ce Z ?_
   refine AK.dN (α:=Nat×L Nd) (λz=>z.1<=M.length/\z.1=z.2.length/\oC M=z.2++oC (M.drop z.1)) (λz=>M.length-z.1)
    (λz=>[(59,.c (.int .i64 z.1)),(58,.c (.int .i64 (aa M).length)),(57,.c (.sl 7 (aa M))),(2,.ptr 2 0),(3,.ptr 3 0)])
    (λz=>[(2,[.c (.int .i64 0),.c (.int .i64 0),.c (.int .i64 0),.c (.str []),.own .exact 5 []]),(3,[.c (.int .i64 3),.c (.int .i64 0),.c (.int .i64 0),.c (.str []),.own (.tok 6003 0) 5 (aD z.2)])]) (λ_=>[(6003,0)]) [2,3,6003] (0,[])
    ⟨ai,Z,cc⟩ ce ⟨Z,Z,trivial⟩ ⟨Z,trivial⟩ Z Z Z ?_
   rintro⟨i,acc⟩ ⟨hi,Fx,H⟩ ih;simp only at hi Fx H;rcases ie M i hi with ⟨x,D,C⟩|he
   ·have hc:=xU D;have h2:=bt D;obtain⟨u,N,K,u3⟩:=I x C;obtain⟨x1,x2,x3,x4,T,x6,x7⟩:=x;have B:x1=11:=u3;have A:=fC C;simp only[aH]at A;have ZH:=kI T;have hq:=DS T ai λy q=>by obtain⟨w,w1,w2⟩:=kids K N (by simp[B]) y q;exact P x1 x2 x3 x4 T x6 x7 C y q w w1 w2
    have hp:=tg 28 (eT T);rw[dK D,QH]at H;rw[show ∀(a:L Nd)(b:Nd)(c:L Nd),a++b::c=a++[b]++c from λa b c=>by simp]at H
    repeat' (first|refine sz ?_|refine zc ?_ ?_|(intro h;first|(cases h;done)|rw[h]|skip)|refine uI Z (i) Z (fG D) Z ?_|refine uC Z hq ?_|refine uC Z hp ?_|(refine uA Z ?_ ?_<;>(try (show(_:Nat)*_<=_;dsimp only))))
    have h1:=aZ acc;simp only[aag,aay];omega;have hap:aD acc++[aM (Nd.mk 2 0 28 [] (eT T))]=aD (acc++[Nd.mk 2 0 28 [] (eT T)]):=(ng acc [_]).symm;refine AK.fY [(2,2),(3,3)] [(6003,(0,some 6003))] (env':=[(59,.c (.int .i64 ((i+1:Nat):Int))),(58,.c (.int .i64 (aa M).length)),(57,.c (.sl 7 (aa M))),(2,.ptr 2 0),(3,.ptr 3 0)])
     (bs':=[(2,[.c (.int .i64 0),.c (.int .i64 0),.c (.int .i64 0),.c (.str []),.own .exact 5 []]),(3,[.c (.int .i64 3),.c (.int .i64 0),.c (.int .i64 0),.c (.str []),.own (.tok 6003 0) 5 (aD (acc++[Nd.mk 2 0 28 [] (eT T)]))])]) (ts':=[(6003,0)]) (us':=[2,3,6003])
     ⟨⟨_,Z,.inl (kL (i:=i) ai)⟩,⟨_,Z,.inl Z⟩,⟨_,Z,.inl Z⟩,⟨_,Z,⟨_,Z,Z⟩⟩,⟨_,Z,⟨_,Z,Z⟩⟩,trivial⟩ ⟨ce,⟨_,_,Z,Z,⟨_,_,Z,.inl Z,⟨_,_,Z,.inl Z,⟨_,_,Z,.inl Z,⟨_,_,Z,.inl Z,⟨_,_,Z,⟨_,Z,.inr ⟨_,_,Z,Z,aeM (AV.own (.tok 6003 1) 5) hap⟩⟩,Z⟩⟩⟩⟩⟩⟩,trivial⟩ Z ?_
    exact ih (i+1,acc++[Nd.mk 2 0 28 [] (eT T)]) ⟨h2,by simp[Fx],H⟩ fo
   have hc:=tf he;have h0:oC M=acc:=(by rw[H,he,aeT,UG,aeO]);rw[h0];clear ih H;exact dq
  rw[aao k n a ai];have e1:(k==1)=false:=by simp;omega
  have e2:(k==2)=false:=by simp;omega
  have e3:(k==6)=false:=by simp;omega
  have e4:(k==9)=false:=by simp;omega
  have e5:(k==10)=false:=by simp;omega
  have e6:(k==11)=false:=by simp;omega
  have e7:(k==12)=false:=by simp;omega
  have e8:(k==13)=false:=by simp;omega
  exact qdq func183 call183
termination_by v=>SizeOf.sizeOf v
decreasing_by
 have h1:=aeQ D;simp at h1 ⊢;omega;have h1:=aeQ D;have h2:=aeQ q;simp at h1 h2 ⊢;omega
end Go.Proofs
namespace Go.Proofs
open Go.cw
def NI(n:Int):1<=(kF n).length:=by
 have:=aap n;cases h:kF n with
 |nil=>exact absurd h this
 |cons a b=>simp
mutual
def DT:∀(t:Nd)(d:Int),eW t d=0->bD t<=(eJ t).length
 |.mk Y n p s M,d,h=>by
  obtain⟨h1,h2⟩:=kf h;obtain⟨_,A,_,_,C,T,_,_,_⟩:=nP h1;have V:=BE M (d+1) h2;have K:=NI (s.length:Int);have U:=NI (M.length:Int);simp only[bD];rcases A with rfl|rfl|⟨rfl,B⟩|rfl
  obtain rfl:=C ai;have:=T ai;rw[ahk]at this;subst this;rw[Xa];simp[aO];have:=T ai;rw[ahk]at this;subst this;rw[Xb];simp only[aO,aag,aaZ];omega;obtain rfl:=C ai;rw[Xc];simp only[aag,aaZ,aay];omega;obtain rfl:=C ai;rw[Xd];simp only[aag,aaZ,aay];omega
def BE:∀(l:L Nd)(d:Int),dx l d=0->aO l<=(fK l).length
 |[],d,_=>by simp[aO]
 |t::l,d,h=>by
  have h1:=CU h t cc;have h2:dx l d=0:=by simp only[dx]at h;rw[if_pos h1]at h;exact h
  have W:=DT t d h1;have S:=BE l d h2;simp only[fK,aO,aaZ];omega
end
attribute [local irreducible] AK ah aR bM fJ eJ dZ qA
end Go.Proofs
namespace Go.Proofs
open Go.cw
def Iz{s:L UInt8}{n:Nat}(C:s.length<=n):bD (fJ s).1<=n+1:=by by_cases O:(fJ s).2=0;obtain⟨G,U⟩:=KY O;have h1:=DT _ 1 (kH.1 G).1;grind;rw[NJ O];simp[vw,bD,aO]
def NK(t:Ty):iK t []=(lC,1):=rfl
def vO(t:Ty)(c:UInt8)(r:L UInt8)(h:¬(c=5/\(c::r).length<=200/\ig t=true/\(fJ r).2=0)):iK t (c::r)=(lC,1):=by simp only[iK,if_neg h]
def QI(t:Ty)(r:L UInt8)(h:(5::r:L UInt8).length<=200/\ig t=true/\(fJ r).2=0):iK t (5::r)=gJ t (fJ r).1:=by exact if_pos ⟨rfl,h⟩
attribute [local irreducible] AK ah aR bM eX eT oC oA bE dZ fJ eJ dR br ig gJ iK
def QJ(t:Ty)(v:Vl)(U:iC t=false)(J:bE v t=true)(N:aH v<=8589934593):af 167 [bA v] (.eF [.str (wL v).1,.int .i64 (wL v).2]):=by
 have V:=AD v t U J N;have u:=F7 v;have Y:=KZ (eX v) ai;rw[F8]at Y;unfold wL;obtain⟨D,Q,O,T,S,M,B⟩:=v;rcases H:eX (.mk D Q O T S M B)with ⟨I,A,W,K,q⟩
 rw[H]at V Y;by_cases e:dZ (.mk I A W K q)=0
 ·rw[if_pos e];rw[if_pos e]at Y;simp only at Y;generalize eJ (.mk I A W K q)=bs at Y;by_cases P:200<=bs.length;rw[if_pos P];have E:decide (((bs.length:Nat):Int)>=200)=true:=aaX ai;exact qdq func167 call167;rw[if_neg P];have E:decide (((bs.length:Nat):Int)>=200)=false:=aaY ai;refine qn func167 call167 λβ hf=>?_
  repeat' (first|refine sz ?_|refine zc ?_ ?_|(intro h;first|(cases h;done)|rw[h]|skip)|refine uC Z V ?_|refine uC Z Y ?_|refine ah.concat hX kn Z Z Z Z Z (show 1+bs.length<=9223372036854775807 from by omega) ?_)
  all_goals rfl
 rw[if_neg e];rw[if_neg e]at Y;simp only at Y;have E:(dZ (.mk I A W K q) != 0)=true:=by simpa using e
 generalize dZ (.mk I A W K q)=z at Y E;exact qdq func167 call167
def oB(t:Ty)(n:Nd)(U:bf t<=8589934593)(S:bD n<=8589934593):af 118 [cU t,aM n] (.eF [bA (gJ t n).1,.int .i64 (gJ t n).2]):=by
 have h1:=lY t U;have h2:=rV n S;obtain⟨T,ts⟩:=t;obtain⟨W,a2,A,P,V⟩:=n;cases g1:br (.mk T ts)with
 |false =>
  rw[g1]at h1;rw[show gJ (.mk T ts) (.mk W a2 A P V)=(lC,1)from by unfold gJ;rw[if_neg (by simp[g1])]];exact qdq func118 call118
 |true =>
 rw[g1]at h1;by_cases H:dZ (.mk W a2 A P V)=0;rotate_left
 ·rw[show gJ (.mk T ts) (.mk W a2 A P V)=(lC,1)from by unfold gJ;rw[if_neg (λh=>H h.2.1)]];have E:(dZ (.mk W a2 A P V) != 0)=true:=by simpa using H
  generalize dZ (.mk W a2 A P V)=z at h2 E;exact qdq func118 call118
 rw[H]at h2;have K:=vP (.mk W a2 A P V) (.mk T ts) (nQ g1) S U;have u:=zj (.mk W a2 A P V) (.mk T ts);have Y:=CW (dR (.mk W a2 A P V) (.mk T ts)).1 (.mk T ts) (nQ g1) ai U;rcases B:dR (.mk W a2 A P V) (.mk T ts)with ⟨⟨I,Q,O,N,q,M,J⟩,b⟩
 rw[B]at K Y;simp only at K Y;cases b with
 |false =>
  rw[show gJ (.mk T ts) (.mk W a2 A P V)=(lC,1)from by unfold gJ;rw[if_neg (by simp[B])]];exact qdq func118 call118
 |true =>
  cases C:bE (.mk I Q O N q M J) (.mk T ts)with
  |false =>
   rw[C]at Y;rw[show gJ (.mk T ts) (.mk W a2 A P V)=(lC,1)from by unfold gJ;rw[if_neg (by simp[B,C])]];exact qdq func118 call118
  |true =>
   rw[C]at Y;rw[show gJ (.mk T ts) (.mk W a2 A P V)=(.mk I Q O N q M J,0)from by unfold gJ;rw[B,if_pos ⟨g1,H,Z,C⟩]];exact qdq func118 call118
def AE:L UInt8->L UInt8×Bool
 |[]=>([],false)
 |c::r=>if c=5 then(r,true)else(c::r,false)
def EF(s:L UInt8):af 196 [.str s,.str [5]] (.bool (AE s).2):=by
 cases s with
 |nil =>
  exact qdq func196 call196
 |cons c r =>
  have E:decide ((((c::r).length:Nat):Int)>=((([5]:L UInt8).length:Nat):Int))=true:=aaX VL;have N:(AE (c::r)).2=([c]==[5]):=by simp only[AE];by_cases h:c=5;rw[if_pos h,h];rfl;rw[if_neg h];simp[h]
  rw[N];exact qdq func196 call196
def CX(s:L UInt8):af 191 [.str s,.str [5]] (.eF [.str (AE s).1,.bool (AE s).2]):=by
 have h1:=EF s;cases s with
 |nil =>
  exact qdq func191 call191
 |cons c r =>
  by_cases h:c=5;subst h;rw[show AE (5::r)=(r,true)from by simp[AE]]at h1 ⊢;simp only at h1;exact qdq func191 call191;rw[show AE (c::r)=(c::r,false)from by simp[AE,h]]at h1 ⊢;simp only at h1;exact qdq func191 call191
def EG(s:L UInt8):af 184 [.str s,.str [5]] (.eF [.str (AE s).1,.bool (AE s).2]):=by have h1:=CX s;exact qdq func184 call184
def BF(t:Ty)(s:L UInt8)(C:bf t<=8589934593):af 168 [cU t,.str s] (.eF [bA (iK t s).1,.int .i64 (iK t s).2]):=by
 have h1:=EG s;have h2:=oa t ai;obtain⟨T,ts⟩:=t;cases s with
 |nil =>
  rw[NK];exact qdq func168 call168
 |cons c r =>
 by_cases Y:c=5;rotate_left;rw[vO _ _ _ (λh=>Y h.1)];rw[show AE (c::r)=(c::r,false)from by simp[AE,Y]]at h1;simp only at h1;exact qdq func168 call168;subst Y;rw[show AE (5::r)=(r,true)from by simp[AE]]at h1;simp only at h1;by_cases P:(5::r:L UInt8).length<=200;rotate_left;rw[vO _ _ _ (λh=>P h.2.1)];have E:decide ((((5::r:L UInt8).length:Nat):Int)>200)=true:=aaX ai;have N:(bif false then true else decide ((((5::r:L UInt8).length:Nat):Int)>200))=true:=E;exact qdq func168 call168;have E:decide ((((5::r:L UInt8).length:Nat):Int)>200)=false:=aaY ai;cases H:ig (.mk T ts)with
 |false =>
  rw[H]at h2;rw[vO _ _ _ (λh=>by rw[H]at h;exact absurd h.2.2.1 cc)];exact qdq func168 call168
 |true =>
 rw[H]at h2;have K:=K1 r;by_cases I:(fJ r).2=0;rotate_left
 ·rw[vO _ _ _ (λh=>I h.2.2.2)];rcases B:fJ r with ⟨⟨V,a2,A,U,G⟩,e⟩
  rw[B]at K I;simp only at K I;have Q:(e != 0)=true:=by simpa using I
  exact qdq func168 call168
 rw[QI _ _ ⟨P,H,I⟩];have O:=Iz (s:=r) (n:=200) (by simp only[aag]at P;omega);have W:=oB (.mk T ts) (fJ r).1 C ai;rcases B:fJ r with ⟨⟨V,a2,A,U,G⟩,e⟩
 rw[B]at K W I;simp only at K W I;subst I;rcases S:gJ (.mk T ts) (.mk V a2 A U G)with ⟨⟨M,J,D,u,q,y6,y7⟩,N⟩
 rw[S]at W;exact qdq func168 call168
end Go.Proofs
namespace Go.Proofs
open Go.cw
def mg(r:CR):∃x y e,gV r = .eF [.agg [x,y],.int .i64 e]/\x.one=true/\y.one=true:=by unfold gV;split;exact⟨_,_,_,rfl,rfl,rfl⟩;exact⟨_,_,_,rfl,rfl,rfl⟩
attribute [local irreducible] AK ah aR bM cX aJ gl ni ig jc br dZ cz fZ cE j8 gJ iD dU iW eP eZ j9 iI bP gV
def K2(P A:Int)(K:L UInt8)(M:L Nd)(G s:L Ty)(hP:40<=P)(hf:bP P M=some G)(C:sL s)(I:s.length<=9999999990)(u:aO M<=8589934593)
  (D:∀a∈M,∀B:L Ty,sL B->B.length<=s.length+1->af 59 [.sl 5 (aD (cG a)),.sl 2 (az B)] (wG (cz (cG a) (B,false)))) :
  af 105 [aM (.mk 2 A P K M),.sl 2 (az G),.sl 2 (az s)] (gV (nZ P M (cE M) G s)):=by
 unfold nZ;by_cases T:P<=44;rw[if_pos T];have e1:decide (P<=44)=true:=aaX T;have hq:=M3 P A K M G s ⟨hP,T⟩ hf C I;obtain⟨x,y,e,Y,W,U⟩:=mg (iD P M s);rw[Y]at hq ⊢;exact qdw func105 call105;rw[if_neg T];have e1:decide (P<=44)=false:=aaY T;by_cases p2:P=45
 ·subst p2;rw[if_pos rfl];obtain⟨x0,q,t,rfl,rfl,ht⟩:=Xe hf rfl;clear hf D;have ht2:=ht.2;have S:=oB t q ai (by simp only[aO]at u;omega);have Q:=oa t ai;rw[show [t].getD 0 lJ=t from Z,show [x0,q].getD 1 vw=q from rfl];obtain⟨V,ws⟩:=t;obtain⟨y1,y2,y3,y4,y5⟩:=q;rcases hr:gJ (.mk V ws) (.mk y1 y2 y3 y4 y5)with ⟨⟨v1,v2,v3,v4,v5,v6,v7⟩,e⟩
  rw[hr]at S;simp only at S ⊢;by_cases he:e=0;rotate_left;rw[if_neg (λh=>he h.1),dL bn];have e2:(e != 0)=true:=(by simpa using he);exact qdw func105 call105;subst he;cases O:ig (.mk V ws)with
  |false =>
   rw[O]at Q;rw[if_neg (λh=>by simp at h),dL bn];exact qdw func105 call105
  |true =>
   rw[O]at Q;have hp:=pF s [.mk V ws];rw[ff]at hp;rw[if_pos ⟨Z,Z⟩,ff];exact qdw func105 call105
 rw[if_neg p2];have e2:(P==45)=false:=by simpa using p2
 by_cases N:P<=58;rw[if_pos N];have e3:decide (P<=58)=true:=aaX N;have hq:=FE P A K M G s ⟨ai,N⟩ hf C I u D;obtain⟨x,y,e,Y,W,U⟩:=mg (dU P (cE M) G s);rw[Y]at hq ⊢;exact qdw func105 call105;rw[if_neg N];have e3:decide (P<=58)=false:=aaY N;by_cases J:P<=63;rw[if_pos J];have e4:decide (P<=63)=true:=aaX J;have hq:=K3 P A K M G s ⟨ai,J⟩ hf C I u D;obtain⟨x,y,e,Y,W,U⟩:=mg (iW P (cE M) G s);rw[Y]at hq ⊢;exact qdw func105 call105;rw[if_neg J];have e4:decide (P<=63)=false:=aaY J;by_cases H:P<=68;rw[if_pos H];have e5:decide (P<=68)=true:=aaX H;have hq:=F9 P A K M G s ⟨ai,H⟩ hf C I u D;obtain⟨x,y,e,Y,W,U⟩:=mg (eP P M (cE M) G s);rw[Y]at hq ⊢;exact qdw func105 call105;rw[if_neg H];have e5:decide (P<=68)=false:=aaY H;by_cases p6:P<=72\/P>=93;rw[if_pos p6];have hq:=FD P s ai I;obtain⟨x,y,e,Y,W,U⟩:=mg (eZ P s);rw[Y]at hq ⊢;by_cases p7:P<=72;have e6:decide (P<=72)=true:=aaX p7;exact qdw func105 call105;have e6:decide (P<=72)=false:=aaY p7;have e7:decide (P>=93)=true:=aaX ai;exact qdw func105 call105;rw[if_neg p6];have e6:decide (P<=72)=false:=aaY ai;have e7:decide (P>=93)=false:=aaY ai;by_cases E:P<=83;rw[if_pos E];have e8:decide (P<=83)=true:=aaX E;have hq:=MU P M G s ⟨ai,E⟩ hf C I;obtain⟨x,y,e,Y,W,U⟩:=mg (j9 P G s);rw[Y]at hq ⊢;exact qdw func105 call105;rw[if_neg E];have e8:decide (P<=83)=false:=aaY E;have hq:=KD P M G s ⟨ai,ai⟩ hf C I;obtain⟨x,y,e,Y,W,U⟩:=mg (iI P G s);rw[Y]at hq ⊢;exact qdw func105 call105
def NM(n:Nd)(s:L Ty)(C:sL s)(T:s.length<=9999999990)(u:bD n<=8589934593)
  (Y:af 59 [.sl 5 (aD (cG n)),.sl 2 (az s)] (wG (cz (cG n) (s,false))))
  (D:∀a∈cG n,∀O:L Ty,sL O->O.length<=s.length+1->af 59 [.sl 5 (aD (cG a)),.sl 2 (az O)] (wG (cz (cG a) (O,false)))) :
  af 80 [aM n,.sl 2 (az s)] (gV (fZ n s)):=by
 obtain⟨W,N,P,S,M⟩:=n;simp only[cG]at Y D;simp only[bD]at u;by_cases U:W=3;subst U;rw[show fZ (.mk 3 N P S M) s=cz M (s,false)from by simp only[fZ,if_true]];generalize cz M (s,false)=r at Y;obtain⟨⟨t,b⟩,e⟩:=r;clear D;exact qdw func80 call80;have H:(W==3)=false:=by simpa using U
 by_cases Q:W=2;rotate_left
 ·have J:(W != 2)=true:=by simpa using Q
  rw[show fZ (.mk W N P S M) s=bw 1 from by simp only[fZ,if_neg U,if_pos Q],dL bn];clear Y D;exact qdw func80 call80
 subst Q;have I:=MP 2 N P S M ai;cases hf:bP P M with
 |none =>
  rw[show fZ (.mk 2 N P S M) s=bw 1 from by simp only[fZ,hf];rfl,dL bn];rw[hf]at I;clear Y D;exact qdw func80 call80
 |some V =>
  have q:40<=P:=by unfold bP at hf;split at hf;cases hf;omega
  rw[show fZ (.mk 2 N P S M) s=nZ P M (cE M) V s from by simp only[fZ,hf];rfl];have hq:=K2 P N S M V s q hf C T ai D;rw[hf]at I;obtain⟨x,y,e,K,G,E⟩:=mg (nZ P M (cE M) V s);rw[K]at hq ⊢;clear Y D;exact qdw func80 call80
end Go.Proofs
namespace Go.Proofs
open Go.cw
def Xf{t:L Ty}{f:Bool}{e:Int}(h:e≠0):gV ((t,f),e) = .eF [.agg [.any,.any],.int .i64 e]:=by unfold gV;rw[if_neg h]
def xY(n:Nd):aO (cG n)+1<=bD n:=by cases n;simp only[cG,bD];omega
def Js(n:Nd):SizeOf.sizeOf (cG n)<SizeOf.sizeOf n:=by cases n;simp only[cG,Nd.mk.sizeOf_spec];omega
def aaq(x:Nd)(l:L Nd)(o:L Ty):cz (x::l) (o,true)=bw 1:=by simp only[cz,if_true]
def aar(x:Nd)(l:L Nd)(o:L Ty):cz (x::l) (o,false)=if(mR (fZ x o)).2≠0 then bw (mR (fZ x o)).2 else cz l (mR (fZ x o)).1:=by simp only[cz];rfl
def ade(o:L Ty×Bool):cz [] o=(o,0):=by simp only[cz]
def aas{t:L Ty}{f:Bool}{e:Int}(h:e≠0):mR ((t,f),e)=bw e:=by unfold mR;rw[if_pos h]
def aat{t:L Ty}{f:Bool}(h:40<t.length):mR ((t,f),0)=bw 7:=by unfold mR;rw[if_neg (by simp),if_pos h]
def aau{t:L Ty}{f:Bool}(h:¬40<t.length)(G:t.all br=false):mR ((t,f),0)=bw 4:=by unfold mR;rw[if_neg (by simp),if_neg h,if_neg (by rw[G];decide)]
def aav{t:L Ty}{f:Bool}(h:¬40<t.length)(G:t.all br=true):mR ((t,f),0)=((t,f),0):=by unfold mR;rw[if_neg (by simp),if_neg h,if_pos G]
attribute [local irreducible] AK ah aR bM cX aJ br dZ cz fZ gV
def AF:∀(l:L Nd)(s:L Ty)(B:Nat),sL s->s.length<=B->40<=B->B+aO l<=9000000000->aO l<=8589934593 ->
  af 59 [.sl 5 (aD l),.sl 2 (az s)] (wG (cz l (s,false)))
 |l,s,B,hs,hB,K,hBl,hl=>by
  have N:∀x∈l,∀o:L Ty,sL o->o.length<=B->af 80 [aM x,.sl 2 (az o)] (gV (fZ x o)):=by intro x D o T M;have hxs:=eO D;have hxa:=xY x;refine NM x o T ai ai (AF (cG x) o B T M K ai ai) (λa A s' J hl'=>?_);have has:=eO A;have haa:=xY a;exact AF (cG a) s' (B+1) J ai ai ai ai
  have Qk:=gu l;refine qn func59 call59 λβ hf=>?_;refine dnw ?_;refine AK.dN (α:=Nat×(L Ty×Bool)) (λz=>z.1<=l.length/\sL z.2.1/\z.2.1.length<=B/\cz l (s,false)=cz (l.drop z.1) z.2) (λz=>l.length-z.1)
   (λz=>[(16,.c (.int .i64 z.1)),(15,.c (.int .i64 (aD l).length)),(14,.c (.sl 5 (aD l))),(6,.ptr 6 0),(4,.ptr 4 0)])
   (λz=>[(6,[.c (.sl 2 (az z.2.1)),.c (.bool z.2.2)]),(4,[.own .exact 2 [],.c (.bool false)])]) (λ_=>[]) [6,4] (0,(s,false))
   ⟨ai,hs,hB,Z⟩ ce ⟨Z,Z,trivial⟩ trivial Z Z Z ?_
  rintro⟨i,⟨o,b⟩⟩ ⟨u,T,M,H⟩ ih;simp only at u T M H;rcases ie l i u with ⟨x,D,hm⟩|O
  ·have hc:=mT D;have h2:=bt D;rw[dK D]at H;cases b with
   |true =>
    rw[aaq]at H;rw[H,j7];clear ih N H;obtain⟨k1,k2,k3,k4,k5⟩:=x;have As:=eK D;exact dw
   |false =>
    rw[aar]at H;have hq:=N x hm o T M;have EH:=ZT x o T;clear N;generalize fZ x o=r at hq EH H;obtain⟨⟨V,f'⟩,e⟩:=r;obtain⟨k1,k2,k3,k4,k5⟩:=x;by_cases O:e=0;rotate_left
    ·rw[aas O,if_pos (show(bw e).2≠0 from O)]at H;rw[Xf O]at hq;rw[H,j7];have e1:(e != 0)=true:=by simpa using O
     clear ih H;have KB:=eK D;exact dw
    subst O;rw[MM]at hq;have z1:=aQ V;by_cases S:40<V.length;rw[aat S,if_pos (show(bw 7).2≠0 from by decide)]at H;rw[H,j7];have e1:decide ((((az V).length:Nat):Int)>40)=true:=aaX ai;clear ih H;have Uk:=eK D;exact dw;have e1:decide ((((az V).length:Nat):Int)>40)=false:=aaY ai
    repeat' (first|refine kM ?_|refine zc ?_ ?_|(intro h;first|(cases h;done)|rw[h]|skip)|refine uI Z (i) Z (eK D) Z ?_|refine uC Z hq ?_)
    refine AK.dN (α:=Nat) (λj=>j<=V.length/\V.all br=(V.drop j).all br) (λj=>V.length-j)
     (λj=>[(42,.c (.int .i64 j)),(41,.c (.int .i64 (az V).length)),(40,.c (.sl 2 (az V))),(16,.c (.int .i64 i)),(15,.c (.int .i64 (aD l).length)),(14,.c (.sl 5 (aD l))),(6,.ptr 6 0),(4,.ptr 4 0)])
     (λj=>[(6,[.c (.sl 2 (az V)),.c (.bool f')]),(4,[.own .exact 2 [],.c (.bool false)])]) (λ_=>[]) [6,4] 0
     ⟨ai,Z⟩ ce ⟨Z,Z,trivial⟩ trivial Z Z Z ?_
    rintro j ⟨hj,Y⟩ jh;rcases ie V j hj with ⟨y,W,I⟩|Q
    ·have G:=KA W;have E:=bt W;have hys:bf y<=2000:=EH y I;have C:=lY y ai;rw[dK W,afQ]at Y;obtain⟨U,us⟩:=y;cases P:br (.mk U us)with
     |false =>
      rw[P]at C Y;rw[afc]at Y;rw[aau S Y,if_pos (show(bw 4).2≠0 from by decide)]at H;rw[H,j7];clear ih jh H;have ZU:=gG W;exact dw
     |true =>
      rw[P]at C Y;rw[afS]at Y
      repeat' (first|refine kM ?_|refine zc ?_ ?_|(intro h;first|(cases h;done)|rw[h]|skip)|refine uI Z (j) Z (gG W) Z ?_|refine uC Z C ?_)
      exact AK.again (jh (j+1) ⟨E,Y⟩ ai) ⟨.inl (dY (i:=j) ai),.inl Z,.inl Z,.inl Z,.inl Z,.inl Z,.inl Z,.inl Z,trivial⟩ ⟨Z,Z,trivial⟩ trivial Z Z Z
    have G:=EX Q;have q:V.all br=true:=(by rw[Y,Q,aeT];rfl);rw[aav S q,if_neg cc]at H;clear jh
    repeat' (first|refine kM ?_|refine zc ?_ ?_|(intro h;first|(cases h;done)|rw[h]|skip))
    exact AK.again (ih (i+1,(V,f')) ⟨h2,uk q,by show V.length<=B;omega,H⟩ N2) ⟨.inl (dY (i:=i) ai),.inl Z,.inl Z,.inl Z,.inl Z,trivial⟩ ⟨Z,Z,trivial⟩ trivial Z Z Z
  have hc:=jZ O;have h0:cz l (s,false)=((o,b),0):=by rw[H,O,aeT,ade]
  rw[h0];clear ih H N;exact dw
termination_by l=>SizeOf.sizeOf l
decreasing_by
 all_goals
  have h1:=aeQ D;have h2:=Js x
  first
   |omega
   |((have h3:=aeQ A);have h4:=Js a;omega)
def vQ(n:Nd)(s:L Ty)(B:bD n<=8589934593)(hs:bp s<=8589934593):af 31 [aM n,.sl 2 (az s)] (wG (ke n s)):=by
 have h1:=rV n B;have zl:=kG s;have z1:=aQ s;unfold ke;by_cases G:dZ n≠0
 ·rw[if_pos G,j7];have E:(dZ n != 0)=true:=by simpa using G
  generalize dZ n=z at h1 E;obtain⟨u,J,I,H,N⟩:=n;exact qdw func31 call31
 rw[if_neg G];have Q:dZ n=0:=by simpa using G
 rw[Q]at h1;have P:=xY n;obtain⟨u,J,I,H,N⟩:=n;simp only[cG]at P;by_cases A:u≠3
 ·simp only[if_pos A];rw[j7];have E:(u != 3)=true:=by simpa using A
  exact qdw func31 call31
 obtain rfl:u=3:=by simpa using A
 simp only[if_neg (show ¬((3:Int)≠3)from by simp)];by_cases D:40<s.length;rw[if_pos D,j7];have E:decide ((((az s).length:Nat):Int)>40)=true:=aaX ai;exact qdw func31 call31;rw[if_neg D];have E:decide ((((az s).length:Nat):Int)>40)=false:=aaY ai;refine qn func31 call31 λβ hf=>?_
 repeat' (first|refine kM ?_|refine zc ?_ ?_|(intro h;first|(cases h;done)|rw[h]|skip)|refine uC Z h1 ?_)
 refine AK.dN (α:=Nat) (λj=>j<=s.length/\s.all br=(s.drop j).all br) (λj=>s.length-j)
  (λj=>[(25,.c (.int .i64 j)),(24,.c (.int .i64 (az s).length)),(23,.c (.sl 2 (az s))),(1,.c (.sl 2 (az s))),(2,.ptr 2 0),(4,.ptr 4 0)])
  (λj=>[(2,[.c (.int .i64 3),.c (.int .i64 J),.c (.int .i64 I),.c (.str H),.c (.sl 5 (aD N))]),(4,[.own .exact 2 [],.c (.bool false)])]) (λ_=>[]) [2,4] 0
  ⟨ai,Z⟩ ce ⟨Z,Z,trivial⟩ trivial Z Z Z ?_
 rintro j ⟨C,Y⟩ jh;rcases ie s j C with ⟨y,V,O⟩|T
 ·have M:=KA V;have K:=bt V;have hys:=cI O;have W:=lY y ai;rw[dK V,afQ]at Y;obtain⟨U,us⟩:=y;cases S:br (.mk U us)with
  |false =>
   rw[S]at W Y;rw[afc]at Y;rw[if_neg (by rw[Y];decide),j7];clear jh;have ZV:=gG V;exact dw
  |true =>
   rw[S]at W Y;rw[afS]at Y
   repeat' (first|refine kM ?_|refine zc ?_ ?_|(intro h;first|(cases h;done)|rw[h]|skip)|refine uI Z (j) Z (gG V) Z ?_|refine uC Z W ?_)
   exact AK.again (jh (j+1) ⟨K,Y⟩ ai) ⟨.inl (dY (i:=j) ai),.inl Z,.inl Z,.inl Z,.inl Z,.inl Z,trivial⟩ ⟨Z,Z,trivial⟩ trivial Z Z Z
 have M:=EX T;have q:s.all br=true:=by rw[Y,T,aeT];rfl
 rw[if_pos q];have lM:=fB s ai;have hr:=AF N s 40 (uk q) ai ai ai ai;generalize cz N (s,false)=r at hr;obtain⟨⟨t,f⟩,e⟩:=r;clear jh;exact dw
end Go.Proofs
namespace Go.cw
mutual
def eU:Vl->Bool
 |.mk k _ _ _ M V code =>
  if k=14 then decide ((ke (.mk 3 0 0 [] code) (V.take 1)).2=0)&&((ke (.mk 3 0 0 [] code) (V.take 1)).1.2||gP (ke (.mk 3 0 0 [] code) (V.take 1)).1.1 (V.drop 1)) && !j8 code
  else ej M
def ej:L Vl->Bool
 |[]=>true
 |x::l=>eU x&&ej l
end
def gN(t:Ty)(v:Vl):Bool:=oA t v&&eU v
def jr(p s:Ty)(n:Nd):Int :=
 if(br p&&br s&&jc p&&jc s)=false then 5
 else if(ke n [.mk 11 [p,s]]).2≠0 then(ke n [.mk 11 [p,s]]).2
 else if(ke n [.mk 11 [p,s]]).1.2=false/\gP (ke n [.mk 11 [p,s]]).1.1 [.mk 11 [.mk 10 [.mk 8 []],s]]=false then 5 else 0
mutual
def vL2:Vl->Bool
 |.mk k _ _ _ M V _=>(if k=14 then decide (V.length=2)else true)&&K4 M
def K4:L Vl->Bool
 |[]=>true
 |x::l=>vL2 x&&K4 l
end
mutual
def K5:∀(v:Vl)(t:Ty),nF t->bE v t=true->vL2 v=true
 |.mk k n a s M V code,.mk T ts,ok,h=>by
  have Y:=Ga M;have hR:=Gb M;have C:M.length=0->K4 M=true:=λh=>by rw[List.length_eq_zero_iff.1 h];rfl
  have P:=uK ok;unfold bE at h;by_cases W:k≠dD (.mk T ts)\/cA (.mk k n a s M V code)=false\/200<s.length;rw[if_pos W]at h;cases h;rw[if_neg W]at h;have B:cA (.mk k n a s M V code)=true:=by
   cases hq:cA (.mk k n a s M V code)with
   |true=>rfl
   |false=>exact absurd (.inr (.inl hq)) W
  have A:k=T:=agq λO=>W (.inl O);subst A;clear W;have d1:∀{p q:Prop}[Decidable (p/\q)],decide (p/\q)=true->q:=λh=>(aeR h).2;simp only[vL2,aaN];by_cases U:k=14;subst U;have N:V.length=2/\a=0/\n=0/\s=[]/\M.length=0:=(by simpa[cA]using B);exact⟨by simp[N.1],C N.2.2.2.2⟩;rw[if_neg U];refine⟨Z,?_⟩;by_cases u:k=1\/k=6;rw[if_pos u]at h;exact C (aeR h).2;rw[if_neg u]at h;by_cases K:k=2;rw[if_pos K]at h;exact C (aeR h).2.2;rw[if_neg K]at h;by_cases J:k=3;rw[if_pos J]at h;exact C (aeR h).2.2;rw[if_neg J]at h;by_cases c4:k=4\/k=5;rw[if_pos c4]at h;exact C (aeR h).2.2;rw[if_neg c4]at h;by_cases I:k=7;rw[if_pos I]at h;exact C (aeR h).2.2;rw[if_neg I]at h;by_cases S:k=9;rw[if_pos S,aaN]at h;subst S;obtain⟨x,rfl,D⟩:=fN ok bn;exact Y x D h.2;rw[if_neg S]at h;by_cases CA:k=10;rw[if_pos CA,aaN]at h;subst CA;obtain⟨x,rfl,D⟩:=fN ok bn;exact Y x D h.2;rw[if_neg CA]at h;by_cases EJ:k=11;rw[if_pos EJ,aaN]at h;subst EJ;have z:=P.1;rw[show arity 11=2 from by decide]at z;exact hR ts (λx D=>P.2 x D) h.2 Yk;rw[if_neg EJ]at h;by_cases EK:k=12
  ·rw[if_pos EK,aaN]at h;subst EK;obtain⟨x,y,rfl,D,G⟩:=fE ok bn;have hn:=aeR h.1;rcases(show n=0\/n=1 by omega)with rfl|rfl
   exact Y x D h.2;exact Y y G h.2
  rw[if_neg EK]at h;by_cases EL:k=13;rw[if_pos EL,aaN,aaN]at h;subst EL;exact Y _ (BG ok bn) h.1.2;rw[if_neg EL,if_neg U]at h;by_cases Q:k=15;rw[if_pos Q,aaN]at h;subst Q;obtain⟨x,rfl,D⟩:=fN ok bn;exact Y x D h.2;rw[if_neg Q]at h;by_cases H:k=8;rw[if_pos H,aaN,aaN]at h;exact Y _ (cF h.1.2) h.2;rw[if_neg H]at h;cases h
def Ga:∀(l:L Vl)(t:Ty),nF t->aL l t=true->K4 l=true
 |[],_,_,_=>rfl
 |x::l,t,ok,h=>by simp only[aL,aaN]at h;simp only[K4,aaN];exact⟨K5 x t ok h.1,Ga l t ok h.2⟩
def Gb:∀(l:L Vl)(r:L Ty),(∀x∈r,nF x)->dA l r=true->l.length<=r.length->K4 l=true
 |[],_,_,_,_=>rfl
 |x::l,[],_,_,h=>by simp at h
 |x::l,t::r,ok,h,E=>by simp only[dA,aaN]at h;simp only[K4,aaN];exact⟨K5 x t (ok t cc) h.1,Gb l r (λx D=>ok x K0) h.2 Tm⟩
end
def aaw{t:Ty}{v:Vl}(h:oA t v=true):vL2 v=true:=by unfold oA at h;rw[aaN]at h;exact K5 v t (cF h.1) h.2
def NN:∀{l:L Vl}{x:Vl},K4 l=true->x∈l->vL2 x=true
 |y::l,x,h,D=>by
  simp only[K4,aaN]at h;rcases List.mem_cons.1 D with rfl|D
  exact h.1;exact NN h.2 D
def Jt:∀l:L Vl,ej l = !(l.any λx => !eU x)
 |[]=>rfl
 |x::l=>by simp only[ej,ahW,Jt l,Bool.not_or,Bool.not_not]
end Go.cw
namespace Go.Proofs
open Go.cw
def Gc(k n a:Int)(s:L UInt8)(M:L Vl)(p q:Ty)(code:L Nd)(A:k=14):eU (.mk k n a s M [p,q] code) =
  (decide ((ke (.mk 3 0 0 [] code) [p]).2=0)&&((ke (.mk 3 0 0 [] code) [p]).1.2||gP (ke (.mk 3 0 0 [] code) [p]).1.1 [q]) && !j8 code):=by
 unfold eU;rw[if_pos A];rfl
def QK(k n a:Int)(s:L UInt8)(M:L Vl)(V:L Ty)(code:L Nd)(A:k≠14):eU (.mk k n a s M V code)=ej M:=by rw[eU,if_neg A]
attribute [local irreducible] AK ah aR bM cX aJ br dZ cz fZ ke j8 eU ej oA gl jc
def DV:∀(v:Vl),vL2 v=true->aH v<=8589934593->af 53 [bA v] (.bool (eU v))
 |.mk k n a s M V code,h2,N=>by
  simp only[aH]at N;simp only[vL2,aaN]at h2;by_cases A:k=14
  ·rw[if_pos A]at h2;obtain⟨p,q,rfl⟩:=DW (aeR h2.1);rw[Gc k n a s M p q code A];subst A;simp only[bp]at N;have I:=vQ (.mk 3 0 0 [] code) [p] adT (by simp only[bp];omega);have W:=xy code ai;have G := @CJ (.mk 3 0 0 [] code) [p];generalize ke (.mk 3 0 0 [] code) [p]=r at I G;obtain⟨⟨t,f⟩,e⟩:=r;simp only at G ⊢;by_cases O:e=0;rotate_left;have E:(e==0)=false:=(by simpa using O);rw[aaY O,afc,afc];exact qdw func53 call53;subst O;rw[aaX Z,afS];have C:=xw t [q] (uk (G Z).1) (by have:=(G Z).2.1;omega);cases f with
   |true =>
    rw[Bool.true_or,afS];exact qdw func53 call53
   |false =>
    rw[aiE];cases hq:gP t [q]with
    |false =>
     rw[hq]at C;rw[afc];exact qdw func53 call53
    |true =>
     rw[hq]at C;rw[afS];exact qdw func53 call53
  rw[QK k n a s M V code A,Jt];have E:(k==14)=false:=by simpa using A
  have Y:∀x∈M,af 75 (bA x::[]) (.bool (!eU x)):=λx D=>by have W:=fC D;have hq:=DV x (NN h2.2 D) ai;obtain⟨J,Q,u,U,T,S,B⟩:=x;exact qdw func75 call75
  have P:=kI M;have hq:=uL M (λx => !eU x) 75 [] Y ai;clear Y;exact qdw func53 call53
termination_by v=>SizeOf.sizeOf v
decreasing_by
 have:=aeQ D;simp at this ⊢;omega
def AG(t:Ty)(v:Vl)(C:bf t<=8589934593)(N:aH v<=8589934593):af 22 [cU t,bA v] (.bool (gN t v)):=by
 have h1:=UJ t v C N;unfold gN;cases J:oA t v with
 |false =>
  rw[J]at h1;rw[afc];obtain⟨T,ts⟩:=t;obtain⟨D,Q,O,Y,W,M,S⟩:=v;exact qdw func22 call22
 |true =>
  have h2:=DV v (aaw J) N;rw[J]at h1;rw[afS];obtain⟨T,ts⟩:=t;obtain⟨D,Q,O,Y,W,M,S⟩:=v;exact qdw func22 call22
end Go.Proofs
